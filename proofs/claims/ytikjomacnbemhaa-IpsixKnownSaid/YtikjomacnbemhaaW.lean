/- Printed by a program of this claim: each call returns what the plain function of its name gives. -/
import Derived.Test.YtikjomacnbemhaaW13
set_option linter.unusedVariables false
namespace Go.Proofs.Ytikjomacnbemhaa
open Go Go.Ox Go.RowKit
set_option maxRecDepth 100000 in
set_option maxHeartbeats 40000000 in
theorem c_law06_IpsixKnown (w : World) (r : Bool) (hF : F_law06_IpsixKnown = some r) :
    CallsR Try.prog 7 [] w (fun v w' => v = .bool r ∧ Mem w [] w' []) := by
  refine calls_KC Try.func7 rfl Try.ntmps7 rfl ?_
  have hM := Mem.init w
  unfold F_law06_IpsixKnown at hF
  refine KC.seq ?_
  refine KC.region ?_
  refine RL.val (O.assign rfl) rfl ?_
  refine RL.nil ?_
  refine KQ.then_n ?_
  refine KC.seq ?_
  refine KC.region ?_
  refine RL.eff (E.bsl (enc := (eI .u8)) (xs := ([0, 43, 44, 60, 6, 17, 59, 255] : List Int)) hM sl31 ze5 rfl rfl rfl (fun _ => rfl) rfl (by kernel_rfl) rfl) rfl fun v w1 hv => ?_
  clear hM
  obtain ⟨A2, rfl, hM, hf⟩ := hv
  refine RL.val (O.assign rfl) rfl ?_
  refine RL.nil ?_
  refine KQ.then_n ?_
  refine KC.seq ?_
  refine KC.region ?_
  refine RL.val (O.assign rfl) rfl ?_
  refine RL.nil ?_
  refine KQ.then_n ?_
  refine KC.seq ?_
  refine KC.seq ?_
  refine KC.region ?_
  refine RL.val (O.assign rfl) rfl ?_
  refine RL.nil ?_
  refine KQ.then_n ?_
  refine KC.block ?_
  refine KC.loop (fun k1332 a w1330 => ∃ (nv1328 : Int) (i1329 : Int), Kn 266 [(1, .slice A2 (([0, 43, 44, 60, 6, 17, 59, 255] : List Int)).length 8), (2, .int .i64 nv1328), (3, .int .i64 i1329)] a ∧ Mem w [] w1330 [.row A2 8 5 1 (([0, 43, 44, 60, 6, 17, 59, 255] : List Int)).length ((([0, 43, 44, 60, 6, 17, 59, 255] : List Int)).flatMap (eI .u8))] ∧ F_law06_IpsixKnown_L1 k1332 nv1328 i1329 = some r) ?_ ?_
  · exact fun a ha => ⟨fuel0, 1, 0, ha.less (less_cons rfl (less_cons rfl (less_cons rfl less_nil))), hM, hF⟩
  · rintro k1332 a w1330 ⟨nv1328, i1329, ha, hM, hF⟩
    refine KC.app ha ?_
    clear ha
    cases k1332 with
    | zero => exact (none_some hF).elim
    | succ k1332 =>
    have hF : F_law06_IpsixKnown_l1 (F_law06_IpsixKnown_L1 k1332) nv1328 i1329 = some r := hF
    unfold F_law06_IpsixKnown_l1 at hF
    refine KC.seq ?_
    refine KC.seq ?_
    refine KC.region ?_
    refine RL.val (O.move rfl) rfl ?_
    refine RL.val (O.lss rfl rfl) rfl ?_
    refine RL.nil ?_
    refine KQ.then_n ?_
    refine KC.cond rfl (fun hc => ?_) (fun hc => ?_)
    · rw [if_pos hc] at hF
      refine KC.skip ?_
      refine KQ.then_n ?_
      refine KC.seq ?_
      refine KC.block ?_
      refine KC.seq ?_
      refine KC.region ?_
      refine RL.eff (E.alloc hM ze24) rfl fun v w1334 hv => ?_
      clear hM
      obtain ⟨g1333, rfl, hM, hf⟩ := hv
      refine RL.nil ?_
      refine KQ.then_n ?_
      refine KC.seq ?_
      refine KC.seq ?_
      refine KC.region ?_
      refine RL.val (O.move rfl) rfl ?_
      refine RL.val (O.rem rfl rfl (by decide)) rfl ?_
      refine RL.val (O.assign rfl) rfl ?_
      refine RL.nil ?_
      refine KQ.then_n ?_
      refine KC.block ?_
      refine KC.loop (fun k1713 a w1711 => ∃ (A1704 : Option Addr) (c1705 : Nat) (css1706 : List (List Value)) (Z1707 : List Nat) (nv1701 : Int) (cv1709 : List T_ipsix_Ext) (kv1710 : Int), Kn 266 [(1, .slice A2 (([0, 43, 44, 60, 6, 17, 59, 255] : List Int)).length 8), (2, .int .i64 nv1701), (3, .int .i64 i1329), (4, .pointer (some ⟨g1333, 0, none⟩)), (5, .int .i64 kv1710)] a ∧ Mem w [] w1711 [.row A2 8 5 1 (([0, 43, 44, 60, 6, 17, 59, 255] : List Int)).length ((([0, 43, 44, 60, 6, 17, 59, 255] : List Int)).flatMap (eI .u8)), .row A1704 c1705 63 2 (cv1709).length (css1706).flatten, .res Z1707 (Els RO_ipsix_Ext 2 cv1709 css1706 Z1707), .box g1333 24 [.slice A1704 (cv1709).length c1705, .int .u8 0]] ∧ F_law06_IpsixKnown_L2 i1329 (F_law06_IpsixKnown_L1 k1332) k1713 nv1701 cv1709 kv1710 = some r) ?_ ?_
      · replace hM := hM.nilrow 63 2
        obtain ⟨Z1993, hM⟩ := hM.glue [] [0, 1, 2] rfl rfl (by decide) rfl (Els RO_ipsix_Ext 2 ([] : List T_ipsix_Ext) []) (fun Z w1 _ _ => Els.nil)
        replace hM := hM.pick [0, 2, 3, 1] rfl (by decide)
        exact fun a ha => ⟨fuel0, none, 0, [], Z1993, nv1328, ([]), (Int.tmod nv1328 5), ha.less (less_cons rfl (less_cons rfl (less_cons rfl (less_cons rfl (less_cons rfl less_nil))))), hM, hF⟩
      · rintro k1713 a w1711 ⟨A1704, c1705, css1706, Z1707, nv1701, cv1709, kv1710, ha, hM, hF⟩
        refine KC.app ha ?_
        clear ha
        cases k1713 with
        | zero => exact (none_some hF).elim
        | succ k1713 =>
        have hF : F_law06_IpsixKnown_l2 (F_law06_IpsixKnown_L2 i1329 (F_law06_IpsixKnown_L1 k1332) k1713) i1329 (F_law06_IpsixKnown_L1 k1332) nv1701 cv1709 kv1710 = some r := hF
        unfold F_law06_IpsixKnown_l2 at hF
        refine KC.seq ?_
        refine KC.seq ?_
        refine KC.region ?_
        refine RL.val (O.move rfl) rfl ?_
        refine RL.val (O.gtr rfl rfl) rfl ?_
        refine RL.nil ?_
        refine KQ.then_n ?_
        refine KC.cond rfl (fun hc => ?_) (fun hc => ?_)
        · rw [if_pos hc] at hF
          refine KC.skip ?_
          refine KQ.then_n ?_
          refine KC.seq ?_
          refine KC.block ?_
          refine KC.cut (fun a w1771 => ∃ (A1758 : Option Addr) (c1759 : Nat) (css1760 : List (List Value)) (Z1761 : List Nat) (g1765 : Nat) (A1768 : Option Addr) (c1769 : Nat) (cv1763 : List T_ipsix_Ext) (xv1766 : Int) (xv1770 : List Int), Kn 266 [(1, .slice A2 (([0, 43, 44, 60, 6, 17, 59, 255] : List Int)).length 8), (2, .int .i64 nv1701), (3, .int .i64 i1329), (4, .pointer (some ⟨g1333, 0, none⟩)), (5, .int .i64 kv1710), (6, .pointer (some ⟨g1765, 0, none⟩))] a ∧ Mem w [] w1771 [.row A2 8 5 1 (([0, 43, 44, 60, 6, 17, 59, 255] : List Int)).length ((([0, 43, 44, 60, 6, 17, 59, 255] : List Int)).flatMap (eI .u8)), .row A1758 c1759 63 2 (cv1763).length (css1760).flatten, .res Z1761 (Els RO_ipsix_Ext 2 cv1763 css1760 Z1761), .box g1333 24 [.slice A1758 (cv1763).length c1759, .int .u8 0], .row A1768 c1769 5 1 (xv1770).length ((xv1770).flatMap (eI .u8)), .box g1765 63 [.int .u8 xv1766, .slice A1768 (xv1770).length c1769]] ∧ F_law06_IpsixKnown_j1 i1329 nv1701 kv1710 (F_law06_IpsixKnown_L2 i1329 (F_law06_IpsixKnown_L1 k1332) k1713) cv1763 xv1766 xv1770 = some r) ?_ ?_
          · replace hM := hM.drewN 1
            refine KC.draw [] [23] [10, 20, 22, 23] [0, 1, 2, 3, 4, 5, 6, 7, 11, 12, 13, 14, 15, 16, 17] (.cons 0 (.cons 1 (.cons 2 (.cons 3 (.cons 4 (.cons 5 (.cons 6 (.cons 7 (.cons 8 (.cons 9 (.cons 11 (.cons 12 (.cons 13 (.cons 14 (.cons 15 (.cons 16 (.cons 17 (.alt 10 (.cons 18 (.cons 19 (.alt 20 (.ofList [21, 22, 23]) 22 (.ofList [20, 21, 23])))) 22 (.ofList [10, 18, 19, 20, 21, 23]))))))))))))))))))) moP (by kernel_rfl) ?_
            refine RD.p rfl rfl rfl rfl (fun w' => O.move rfl) ?_
            refine RD.p rfl rfl rfl rfl (fun w' => O.move rfl) ?_
            refine RD.p rfl rfl rfl rfl (fun w' => O.quo rfl rfl (by decide)) ?_
            refine RD.p rfl rfl rfl rfl (fun w' => O.rem rfl rfl (by decide)) ?_
            refine RD.p rfl rfl rfl rfl (fun w' => O.move rfl) ?_
            refine RD.p rfl rfl rfl rfl (fun w' => O.rem rfl rfl (by decide)) ?_
            refine RD.p rfl rfl rfl rfl (fun w' => O.add rfl rfl) ?_
            refine cut_someE hF fun hq1714 hF => ?_
            refine RD.p rfl rfl rfl rfl (fun w' => O.rem rfl rfl (of_decide_eq_true hq1714)) ?_
            refine obindE hF fun xv1717 hx1716 hF => ?_
            have hA1715 := Rd.atN (f := (eI .u8)) (s := 1) (fun _ => rfl) (by decide) (hM.rd (i := 0) rfl) hx1716
            refine RD.q rfl rfl rfl rfl (fun w' hf => O.idxA sl31 (hA1715.fut hf) rfl rfl) ?_
            refine RD.q rfl rfl rfl rfl (fun w' hf => O.load sc5 rfl (hA1715.fut hf).cells.at0) ?_
            refine RD.p rfl rfl rfl rfl (fun w' => O.move rfl) ?_
            refine RD.p rfl rfl rfl rfl (fun w' => O.quo rfl rfl (by decide)) ?_
            refine RD.p rfl rfl rfl rfl (fun w' => O.rem rfl rfl (by decide)) ?_
            refine RD.p rfl rfl rfl rfl (fun w' => O.move rfl) ?_
            refine RD.p rfl rfl rfl rfl (fun w' => O.rem rfl rfl (by decide)) ?_
            refine RD.p rfl rfl rfl rfl (fun w' => O.add rfl rfl) ?_
            refine cut_someE hF fun hq1718 hF => ?_
            refine RD.p rfl rfl rfl rfl (fun w' => O.rem rfl rfl (of_decide_eq_true hq1718)) ?_
            refine RD.alt ?_ ?_
            · refine RD.meff rfl rfl (E.bsl (enc := (eI .i64)) (xs := ([6, 6, 14, 22, 5, 7, 6, 2046, 2054] : List Int)) hM sl74 ze3 rfl rfl rfl (fun _ => rfl) rfl (by kernel_rfl) rfl) rfl fun v w1719 hv => ?_
              clear hM
              obtain ⟨A1720, rfl, hM, hf⟩ := hv
              refine ⟨fun _ => hf, ?_⟩
              refine obindE hF fun xv1724 hx1723 hF => ?_
              have hA1722 := Rd.atN (f := (eI .i64)) (s := 1) (fun _ => rfl) (by decide) (hM.rd (i := 4) rfl) hx1723
              refine RD.q rfl rfl rfl rfl (fun w' hf => O.idxA sl74 (hA1722.fut hf) rfl rfl) ?_
              refine RD.q rfl rfl rfl rfl (fun w' hf => O.load sc3 rfl (hA1722.fut hf).cells.at0) ?_
              refine RD.alt ?_ ?_
              · refine cut_someE hF fun hq1727 hF => ?_
                refine RD.meff rfl rfl (E.mks (enc := (eI .u8)) (zr := 0) hM sl31 ze5 rfl rfl (fun _ => rfl) rfl rfl rfl (of_decide_eq_true hq1727)) rfl fun v w1726 hv => ?_
                clear hM
                obtain ⟨A1725, rfl, hM, hf⟩ := hv
                refine ⟨fun _ => hf, ?_⟩
                refine RD.q rfl rfl rfl rfl (fun w' hf => O.bld (cs := [.int .u8 xv1717, .slice A1725 ((List.replicate (Int.toNat xv1724) (0 : Int))).length (Int.toNat xv1724)]) bt63 rfl (by kernel_rfl)) ?_
                refine RD.meff rfl rfl (E.alloc hM ze63) rfl fun v w1730 hv => ?_
                clear hM
                obtain ⟨g1729, rfl, hM, hf⟩ := hv
                refine ⟨fun _ => hf, ?_⟩
                refine RD.meffs rfl rfl rfl (E.stB (j := 6) (off := 0) (vs := [.int .u8 xv1717, .slice A1725 ((List.replicate (Int.toNat xv1724) (0 : Int))).length (Int.toNat xv1724)]) (cs' := [.int .u8 xv1717, .slice A1725 ((List.replicate (Int.toNat xv1724) (0 : Int))).length (Int.toNat xv1724)]) hM rfl sz63 rfl (adds_eq [] rfl) rfl rfl (One.all rfl) rfl rfl) fun w1732 hM1 => ?_
                clear hM
                have hM := hM1
                clear hM1
                refine RD.nil ?_
                refine KQ.then_k ?_
                replace hM := hM.pick [0, 1, 2, 3, 5, 6] rfl (by decide)
                exact fun a ha => ⟨A1704, c1705, css1706, Z1707, g1729, A1725, (Int.toNat xv1724), cv1709, xv1717, (List.replicate (Int.toNat xv1724) (0 : Int)), ha.less (less_cons rfl (less_cons rfl (less_cons rfl (less_cons rfl (less_cons rfl (less_cons rfl less_nil)))))), hM, hF⟩
              · refine RD.meff rfl rfl (E.alloc hM ze63) rfl fun v w1734 hv => ?_
                clear hM
                obtain ⟨g1733, rfl, hM, hf⟩ := hv
                refine ⟨fun _ => hf, ?_⟩
                refine cut_someE hF fun hq1738 hF => ?_
                refine RD.meff rfl rfl (E.mks (enc := (eI .u8)) (zr := 0) hM sl31 ze5 rfl rfl (fun _ => rfl) rfl rfl rfl (of_decide_eq_true hq1738)) rfl fun v w1737 hv => ?_
                clear hM
                obtain ⟨A1736, rfl, hM, hf⟩ := hv
                refine ⟨fun _ => hf, ?_⟩
                refine RD.q rfl rfl rfl rfl (fun w' hf => O.bld (cs := [.int .u8 xv1717, .slice A1736 ((List.replicate (Int.toNat xv1724) (0 : Int))).length (Int.toNat xv1724)]) bt63 rfl (by kernel_rfl)) ?_
                refine RD.meffs rfl rfl rfl (E.stB (j := 5) (off := 0) (vs := [.int .u8 xv1717, .slice A1736 ((List.replicate (Int.toNat xv1724) (0 : Int))).length (Int.toNat xv1724)]) (cs' := [.int .u8 xv1717, .slice A1736 ((List.replicate (Int.toNat xv1724) (0 : Int))).length (Int.toNat xv1724)]) hM rfl sz63 rfl (adds_eq [] rfl) rfl rfl (One.all rfl) rfl rfl) fun w1740 hM1 => ?_
                clear hM
                have hM := hM1
                clear hM1
                refine RD.nil ?_
                refine KQ.then_k ?_
                replace hM := hM.pick [0, 1, 2, 3, 6, 5] rfl (by decide)
                exact fun a ha => ⟨A1704, c1705, css1706, Z1707, g1733, A1736, (Int.toNat xv1724), cv1709, xv1717, (List.replicate (Int.toNat xv1724) (0 : Int)), ha.less (less_cons rfl (less_cons rfl (less_cons rfl (less_cons rfl (less_cons rfl (less_cons rfl less_nil)))))), hM, hF⟩
            · refine RD.meff rfl rfl (E.alloc hM ze63) rfl fun v w1742 hv => ?_
              clear hM
              obtain ⟨g1741, rfl, hM, hf⟩ := hv
              refine ⟨fun _ => hf, ?_⟩
              refine RD.meff rfl rfl (E.bsl (enc := (eI .i64)) (xs := ([6, 6, 14, 22, 5, 7, 6, 2046, 2054] : List Int)) hM sl74 ze3 rfl rfl rfl (fun _ => rfl) rfl (by kernel_rfl) rfl) rfl fun v w1744 hv => ?_
              clear hM
              obtain ⟨A1745, rfl, hM, hf⟩ := hv
              refine ⟨fun _ => hf, ?_⟩
              refine obindE hF fun xv1749 hx1748 hF => ?_
              have hA1747 := Rd.atN (f := (eI .i64)) (s := 1) (fun _ => rfl) (by decide) (hM.rd (i := 5) rfl) hx1748
              refine RD.q rfl rfl rfl rfl (fun w' hf => O.idxA sl74 (hA1747.fut hf) rfl rfl) ?_
              refine RD.q rfl rfl rfl rfl (fun w' hf => O.load sc3 rfl (hA1747.fut hf).cells.at0) ?_
              refine cut_someE hF fun hq1752 hF => ?_
              refine RD.meff rfl rfl (E.mks (enc := (eI .u8)) (zr := 0) hM sl31 ze5 rfl rfl (fun _ => rfl) rfl rfl rfl (of_decide_eq_true hq1752)) rfl fun v w1751 hv => ?_
              clear hM
              obtain ⟨A1750, rfl, hM, hf⟩ := hv
              refine ⟨fun _ => hf, ?_⟩
              refine RD.q rfl rfl rfl rfl (fun w' hf => O.bld (cs := [.int .u8 xv1717, .slice A1750 ((List.replicate (Int.toNat xv1749) (0 : Int))).length (Int.toNat xv1749)]) bt63 rfl (by kernel_rfl)) ?_
              refine RD.meffs rfl rfl rfl (E.stB (j := 4) (off := 0) (vs := [.int .u8 xv1717, .slice A1750 ((List.replicate (Int.toNat xv1749) (0 : Int))).length (Int.toNat xv1749)]) (cs' := [.int .u8 xv1717, .slice A1750 ((List.replicate (Int.toNat xv1749) (0 : Int))).length (Int.toNat xv1749)]) hM rfl sz63 rfl (adds_eq [] rfl) rfl rfl (One.all rfl) rfl rfl) fun w1754 hM1 => ?_
              clear hM
              have hM := hM1
              clear hM1
              refine RD.nil ?_
              refine KQ.then_k ?_
              replace hM := hM.pick [0, 1, 2, 3, 6, 4] rfl (by decide)
              exact fun a ha => ⟨A1704, c1705, css1706, Z1707, g1741, A1750, (Int.toNat xv1749), cv1709, xv1717, (List.replicate (Int.toNat xv1749) (0 : Int)), ha.less (less_cons rfl (less_cons rfl (less_cons rfl (less_cons rfl (less_cons rfl (less_cons rfl less_nil)))))), hM, hF⟩
          · rintro a w1771 ⟨A1758, c1759, css1760, Z1761, g1765, A1768, c1769, cv1763, xv1766, xv1770, ha, hM, hF⟩
            refine KC.app ha ?_
            clear ha
            unfold F_law06_IpsixKnown_j1 at hF
            refine KC.seq ?_
            refine KC.seq ?_
            refine KC.region ?_
            refine RL.val (O.assign rfl) rfl ?_
            refine RL.nil ?_
            refine KQ.then_n ?_
            refine KC.block ?_
            refine KC.loop (fun k1841 a w1839 => ∃ (A1827 : Option Addr) (c1828 : Nat) (css1829 : List (List Value)) (Z1830 : List Nat) (A1835 : Option Addr) (c1836 : Nat) (cv1832 : List T_ipsix_Ext) (xv1837 : List Int) (m1838 : Int), Kn 266 [(1, .slice A2 (([0, 43, 44, 60, 6, 17, 59, 255] : List Int)).length 8), (2, .int .i64 nv1701), (3, .int .i64 i1329), (4, .pointer (some ⟨g1333, 0, none⟩)), (5, .int .i64 kv1710), (6, .pointer (some ⟨g1765, 0, none⟩)), (7, .int .i64 m1838)] a ∧ Mem w [] w1839 [.row A2 8 5 1 (([0, 43, 44, 60, 6, 17, 59, 255] : List Int)).length ((([0, 43, 44, 60, 6, 17, 59, 255] : List Int)).flatMap (eI .u8)), .row A1827 c1828 63 2 (cv1832).length (css1829).flatten, .res Z1830 (Els RO_ipsix_Ext 2 cv1832 css1829 Z1830), .box g1333 24 [.slice A1827 (cv1832).length c1828, .int .u8 0], .row A1835 c1836 5 1 (xv1837).length ((xv1837).flatMap (eI .u8)), .box g1765 63 [.int .u8 xv1766, .slice A1835 (xv1837).length c1836]] ∧ F_law06_IpsixKnown_L3 i1329 nv1701 kv1710 (F_law06_IpsixKnown_L2 i1329 (F_law06_IpsixKnown_L1 k1332) k1713) xv1766 k1841 cv1832 xv1837 m1838 = some r) ?_ ?_
            · exact fun a ha => ⟨fuel0, A1758, c1759, css1760, Z1761, A1768, c1769, cv1763, xv1770, 0, ha.less (less_cons rfl (less_cons rfl (less_cons rfl (less_cons rfl (less_cons rfl (less_cons rfl (less_cons rfl less_nil))))))), hM, hF⟩
            · rintro k1841 a w1839 ⟨A1827, c1828, css1829, Z1830, A1835, c1836, cv1832, xv1837, m1838, ha, hM, hF⟩
              refine KC.app ha ?_
              clear ha
              cases k1841 with
              | zero => exact (none_some hF).elim
              | succ k1841 =>
              have hF : F_law06_IpsixKnown_l3 (F_law06_IpsixKnown_L3 i1329 nv1701 kv1710 (F_law06_IpsixKnown_L2 i1329 (F_law06_IpsixKnown_L1 k1332) k1713) xv1766 k1841) i1329 nv1701 kv1710 (F_law06_IpsixKnown_L2 i1329 (F_law06_IpsixKnown_L1 k1332) k1713) xv1766 cv1832 xv1837 m1838 = some r := hF
              unfold F_law06_IpsixKnown_l3 at hF
              refine KC.seq ?_
              refine KC.cut (fun a w1854 => ∃ (A1845 : Option Addr) (c1846 : Nat) (css1847 : List (List Value)) (Z1848 : List Nat) (cv1850 : List T_ipsix_Ext) (t1853 : Bool), Kn 266 [(1, .slice A2 (([0, 43, 44, 60, 6, 17, 59, 255] : List Int)).length 8), (2, .int .i64 nv1701), (3, .int .i64 i1329), (4, .pointer (some ⟨g1333, 0, none⟩)), (5, .int .i64 kv1710), (6, .pointer (some ⟨g1765, 0, none⟩)), (7, .int .i64 m1838), (60, .bool t1853)] a ∧ Mem w [] w1854 [.row A2 8 5 1 (([0, 43, 44, 60, 6, 17, 59, 255] : List Int)).length ((([0, 43, 44, 60, 6, 17, 59, 255] : List Int)).flatMap (eI .u8)), .row A1845 c1846 63 2 (cv1850).length (css1847).flatten, .res Z1848 (Els RO_ipsix_Ext 2 cv1850 css1847 Z1848), .box g1333 24 [.slice A1845 (cv1850).length c1846, .int .u8 0], .row A1835 c1836 5 1 (xv1837).length ((xv1837).flatMap (eI .u8)), .box g1765 63 [.int .u8 xv1766, .slice A1835 (xv1837).length c1836]] ∧ F_law06_IpsixKnown_j2 i1329 nv1701 kv1710 (F_law06_IpsixKnown_L2 i1329 (F_law06_IpsixKnown_L1 k1332) k1713) xv1766 xv1837 m1838 (F_law06_IpsixKnown_L3 i1329 nv1701 kv1710 (F_law06_IpsixKnown_L2 i1329 (F_law06_IpsixKnown_L1 k1332) k1713) xv1766 k1841) cv1850 t1853 = some r) ?_ ?_
              · refine KC.region ?_
                refine RL.val (O.move rfl) rfl ?_
                refine RL.val (O.fldA fl63_1 (by decide) rfl) rfl ?_
                refine RL.val (O.load sc31 rfl (Cs.adds [1] ((hM.bx (i := 5) rfl)) rfl)) rfl ?_
                refine RL.val (O.len sl31 rfl) rfl ?_
                refine RL.val (O.lss rfl rfl) rfl ?_
                refine RL.val (O.move rfl) rfl ?_
                refine RL.bcase (t := 57) rfl (fun hc => ?_) (fun hc => ?_)
                · rw [if_pos hc] at hF
                  refine RL.gval rfl rfl (O.move rfl) rfl ?_
                  refine RL.gval rfl rfl (O.lss rfl rfl) rfl ?_
                  refine RL.val (O.pickt rfl rfl) rfl ?_
                  refine RL.nil ?_
                  refine KQ.then_k ?_
                  exact fun a ha => ⟨A1827, c1828, css1829, Z1830, cv1832, (decide (m1838 < 6)), ha.less (less_cons rfl (less_cons rfl (less_cons rfl (less_cons rfl (less_cons rfl (less_cons rfl (less_cons rfl (less_cons rfl less_nil)))))))), hM, hF⟩
                · rw [if_neg (ne_true hc)] at hF
                  refine RL.gskip rfl rfl rfl rfl ?_
                  refine RL.gskip rfl rfl rfl rfl ?_
                  refine RL.val (O.pickf rfl rfl) rfl ?_
                  refine RL.nil ?_
                  refine KQ.then_k ?_
                  exact fun a ha => ⟨A1827, c1828, css1829, Z1830, cv1832, false, ha.less (less_cons rfl (less_cons rfl (less_cons rfl (less_cons rfl (less_cons rfl (less_cons rfl (less_cons rfl (less_cons rfl less_nil)))))))), hM, hF⟩
              · rintro a w1854 ⟨A1845, c1846, css1847, Z1848, cv1850, t1853, ha, hM, hF⟩
                refine KC.app ha ?_
                clear ha
                unfold F_law06_IpsixKnown_j2 at hF
                refine KC.cond rfl (fun hc => ?_) (fun hc => ?_)
                · rw [if_pos hc] at hF
                  refine KC.skip ?_
                  refine KQ.then_n ?_
                  refine KC.seq ?_
                  refine KC.block ?_
                  replace hM := hM.drewN 1
                  refine KC.draw [] [8] [8] [0, 2, 3, 4, 5, 6] (.ofList [0, 1, 2, 3, 4, 5, 6, 7, 8]) moP (by kernel_rfl) ?_
                  refine RD.p rfl rfl rfl rfl (fun w' => O.fldA fl63_1 (by decide) rfl) ?_
                  refine RD.q rfl rfl rfl rfl (fun w' hf => O.load sc31 rfl (Cs.adds [1] ((hM.bx (i := 5) rfl).fut hf) rfl)) ?_
                  refine RD.p rfl rfl rfl rfl (fun w' => O.move rfl) ?_
                  refine RD.p rfl rfl rfl rfl (fun w' => O.move rfl) ?_
                  refine RD.p rfl rfl rfl rfl (fun w' => O.move rfl) ?_
                  refine cut_someE hF fun hq1855 hF => ?_
                  refine RD.p rfl rfl rfl rfl (fun w' => O.shr rfl rfl (of_decide_eq_true hq1855)) ?_
                  refine RD.p rfl rfl rfl rfl (fun w' => O.conv un3 Try.underlying5 rfl) ?_
                  refine obindE hF fun xv1858 hx1857 hF => ?_
                  have hA1856 := Rd.atN (f := (eI .u8)) (s := 1) (fun _ => rfl) (by decide) (hM.rd (i := 4) rfl) hx1857
                  refine RD.q rfl rfl rfl rfl (fun w' hf => O.idxA sl31 (hA1856.fut hf) rfl rfl) ?_
                  refine RD.meffs rfl rfl rfl (E.stR (enc := (eI .u8)) (j := 4) (off := 0) (vs := [.int .u8 (IntKind.u8.wrap (Ox.shr .i64 nv1701 m1838))]) (x' := (IntKind.u8.wrap (Ox.shr .i64 nv1701 m1838))) hM rfl (fun _ => rfl) hx1857 sz5 rfl (addsR_eq [] rfl) rfl rfl (One.all rfl) rfl rfl) fun w1859 hM1 => ?_
                  clear hM
                  obtain ⟨hM, hn1860⟩ := hM1
                  refine RD.reslot (t := 64) rfl hn1860 ?_
                  replace hM := hM.rebox (i := 5) (cs' := [.int .u8 xv1766, .slice A1835 ((xv1837.set (m1838 : Int).toNat (IntKind.u8.wrap (Ox.shr .i64 nv1701 m1838)))).length c1836]) rfl (by rw [← hn1860])
                  refine RD.nil ?_
                  refine KQ.blk_n ?_
                  refine KQ.then_n ?_
                  refine KC.region ?_
                  refine RL.val (O.move rfl) rfl ?_
                  refine RL.val (O.add rfl rfl) rfl ?_
                  refine RL.val (O.assign rfl) rfl ?_
                  refine RL.nil ?_
                  refine KQ.then_k ?_
                  exact fun a ha => ⟨k1841, Nat.lt_succ_self k1841, A1845, c1846, css1847, Z1848, A1835, c1836, cv1850, (xv1837.set (m1838 : Int).toNat (IntKind.u8.wrap (Ox.shr .i64 nv1701 m1838))), (IntKind.i64.wrap (m1838 + 1)), ha.less (less_cons rfl (less_cons rfl (less_cons rfl (less_cons rfl (less_cons rfl (less_cons rfl (less_cons rfl less_nil))))))), hM, hF⟩
                · rw [if_neg (ne_true hc)] at hF
                  refine KC.exit ?_
                  refine KQ.then_x ?_
                  refine KQ.then_x ?_
                  refine KQ.blk_x ?_
                  refine KQ.then_n ?_
                  refine KC.cut (fun a w1901 => ∃ (A1890 : Option Addr) (c1891 : Nat) (css1892 : List (List Value)) (Z1893 : List Nat) (A1898 : Option Addr) (c1899 : Nat) (cv1895 : List T_ipsix_Ext) (xv1900 : List Int), Kn 266 [(1, .slice A2 (([0, 43, 44, 60, 6, 17, 59, 255] : List Int)).length 8), (2, .int .i64 nv1701), (3, .int .i64 i1329), (4, .pointer (some ⟨g1333, 0, none⟩)), (5, .int .i64 kv1710), (6, .pointer (some ⟨g1765, 0, none⟩))] a ∧ Mem w [] w1901 [.row A2 8 5 1 (([0, 43, 44, 60, 6, 17, 59, 255] : List Int)).length ((([0, 43, 44, 60, 6, 17, 59, 255] : List Int)).flatMap (eI .u8)), .row A1890 c1891 63 2 (cv1895).length (css1892).flatten, .res Z1893 (Els RO_ipsix_Ext 2 cv1895 css1892 Z1893), .box g1333 24 [.slice A1890 (cv1895).length c1891, .int .u8 0], .row A1898 c1899 5 1 (xv1900).length ((xv1900).flatMap (eI .u8)), .box g1765 63 [.int .u8 xv1766, .slice A1898 (xv1900).length c1899]] ∧ F_law06_IpsixKnown_j3 nv1701 kv1710 (F_law06_IpsixKnown_L2 i1329 (F_law06_IpsixKnown_L1 k1332) k1713) xv1766 cv1895 xv1900 = some r) ?_ ?_
                  · refine KC.cut (fun a w1873 => ∃ (A1864 : Option Addr) (c1865 : Nat) (css1866 : List (List Value)) (Z1867 : List Nat) (cv1869 : List T_ipsix_Ext) (t1872 : Bool), Kn 266 [(1, .slice A2 (([0, 43, 44, 60, 6, 17, 59, 255] : List Int)).length 8), (2, .int .i64 nv1701), (3, .int .i64 i1329), (4, .pointer (some ⟨g1333, 0, none⟩)), (5, .int .i64 kv1710), (6, .pointer (some ⟨g1765, 0, none⟩)), (84, .bool t1872)] a ∧ Mem w [] w1873 [.row A2 8 5 1 (([0, 43, 44, 60, 6, 17, 59, 255] : List Int)).length ((([0, 43, 44, 60, 6, 17, 59, 255] : List Int)).flatMap (eI .u8)), .row A1864 c1865 63 2 (cv1869).length (css1866).flatten, .res Z1867 (Els RO_ipsix_Ext 2 cv1869 css1866 Z1867), .box g1333 24 [.slice A1864 (cv1869).length c1865, .int .u8 0], .row A1835 c1836 5 1 (xv1837).length ((xv1837).flatMap (eI .u8)), .box g1765 63 [.int .u8 xv1766, .slice A1835 (xv1837).length c1836]] ∧ F_law06_IpsixKnown_j4 nv1701 kv1710 (F_law06_IpsixKnown_L2 i1329 (F_law06_IpsixKnown_L1 k1332) k1713) xv1766 xv1837 cv1869 t1872 = some r) ?_ ?_
                    · refine KC.region ?_
                      refine RL.val (O.fldA fl63_0 (by decide) rfl) rfl ?_
                      refine RL.val (O.load sc5 rfl (Cs.adds [0] ((hM.bx (i := 5) rfl)) rfl)) rfl ?_
                      refine RL.val (O.eql rfl rfl) rfl ?_
                      refine RL.val (O.move rfl) rfl ?_
                      refine RL.bcase (t := 74) rfl (fun hc => ?_) (fun hc => ?_)
                      · rw [if_pos hc] at hF
                        refine RL.gval rfl rfl (O.fldA fl63_1 (by decide) rfl) rfl ?_
                        refine RL.gval rfl rfl (O.load sc31 rfl (Cs.adds [1] ((hM.bx (i := 5) rfl)) rfl)) rfl ?_
                        refine RL.gval rfl rfl (O.len sl31 rfl) rfl ?_
                        refine RL.gval rfl rfl (O.gtr rfl rfl) rfl ?_
                        refine RL.val (O.pickt rfl rfl) rfl ?_
                        refine RL.val (O.move rfl) rfl ?_
                        refine RL.bcase (t := 80) rfl (fun hc => ?_) (fun hc => ?_)
                        · rw [if_pos hc] at hF
                          refine RL.gval rfl rfl (O.move rfl) rfl ?_
                          refine RL.gval rfl rfl (O.rem rfl rfl (by decide)) rfl ?_
                          refine RL.gval rfl rfl (O.gtr rfl rfl) rfl ?_
                          refine RL.val (O.pickt rfl rfl) rfl ?_
                          refine RL.nil ?_
                          refine KQ.then_k ?_
                          exact fun a ha => ⟨A1845, c1846, css1847, Z1848, cv1850, (decide (0 < (Int.tmod i1329 3))), ha.less (less_cons rfl (less_cons rfl (less_cons rfl (less_cons rfl (less_cons rfl (less_cons rfl (less_cons rfl less_nil))))))), hM, hF⟩
                        · rw [if_neg (ne_true hc)] at hF
                          refine RL.gskip rfl rfl rfl rfl ?_
                          refine RL.gskip rfl rfl rfl rfl ?_
                          refine RL.gskip rfl rfl rfl rfl ?_
                          refine RL.val (O.pickf rfl rfl) rfl ?_
                          refine RL.nil ?_
                          refine KQ.then_k ?_
                          exact fun a ha => ⟨A1845, c1846, css1847, Z1848, cv1850, false, ha.less (less_cons rfl (less_cons rfl (less_cons rfl (less_cons rfl (less_cons rfl (less_cons rfl (less_cons rfl less_nil))))))), hM, hF⟩
                      · rw [if_neg (ne_true hc)] at hF
                        refine RL.gskip rfl rfl rfl rfl ?_
                        refine RL.gskip rfl rfl rfl rfl ?_
                        refine RL.gskip rfl rfl rfl rfl ?_
                        refine RL.gskip rfl rfl rfl rfl ?_
                        refine RL.val (O.pickf rfl rfl) rfl ?_
                        refine RL.val (O.move rfl) rfl ?_
                        refine RL.gskip rfl rfl rfl rfl ?_
                        refine RL.gskip rfl rfl rfl rfl ?_
                        refine RL.gskip rfl rfl rfl rfl ?_
                        refine RL.val (O.pickf rfl rfl) rfl ?_
                        refine RL.nil ?_
                        refine KQ.then_k ?_
                        exact fun a ha => ⟨A1845, c1846, css1847, Z1848, cv1850, false, ha.less (less_cons rfl (less_cons rfl (less_cons rfl (less_cons rfl (less_cons rfl (less_cons rfl (less_cons rfl less_nil))))))), hM, hF⟩
                    · rintro a w1873 ⟨A1864, c1865, css1866, Z1867, cv1869, t1872, ha, hM, hF⟩
                      refine KC.app ha ?_
                      clear ha
                      unfold F_law06_IpsixKnown_j4 at hF
                      refine KC.cond rfl (fun hc => ?_) (fun hc => ?_)
                      · rw [if_pos hc] at hF
                        refine KC.seq ?_
                        refine KC.region ?_
                        refine RL.val (O.fldA fl63_1 (by decide) rfl) rfl ?_
                        refine RL.val (O.load sc31 rfl (Cs.adds [1] ((hM.bx (i := 5) rfl)) rfl)) rfl ?_
                        refine RL.val (O.move rfl) rfl ?_
                        refine RL.val (O.rem rfl rfl (by decide)) rfl ?_
                        refine RL.val (O.conv un3 Try.underlying5 rfl) rfl ?_
                        refine obindE hF fun xv1876 hx1875 hF => ?_
                        have hA1874 := Rd.atN (f := (eI .u8)) (s := 1) (fun _ => rfl) (by decide) (hM.rd (i := 4) rfl) hx1875
                        refine RL.val (O.idxA sl31 (hA1874) rfl rfl) rfl ?_
                        refine RL.effs (E.stR (enc := (eI .u8)) (j := 4) (off := 0) (vs := [.int .u8 (IntKind.u8.wrap (Int.tmod nv1701 2))]) (x' := (IntKind.u8.wrap (Int.tmod nv1701 2))) hM rfl (fun _ => rfl) hx1875 sz5 rfl (addsR_eq [] rfl) rfl rfl (One.all rfl) rfl rfl) fun w1877 hM1 => ?_
                        clear hM
                        obtain ⟨hM, hn1878⟩ := hM1
                        refine RL.reslot (t := 86) rfl hn1878 ?_
                        replace hM := hM.rebox (i := 5) (cs' := [.int .u8 xv1766, .slice A1835 ((xv1837.set (0 : Int).toNat (IntKind.u8.wrap (Int.tmod nv1701 2)))).length c1836]) rfl (by rw [← hn1878])
                        refine RL.nil ?_
                        refine KQ.then_n ?_
                        replace hM := hM.drewN 1
                        refine KC.draw [] [8] [8] [0, 2, 6] (.ofList [0, 1, 2, 3, 4, 5, 6, 7, 8]) moP (by kernel_rfl) ?_
                        refine RD.p rfl rfl rfl rfl (fun w' => O.fldA fl63_1 (by decide) rfl) ?_
                        refine RD.q rfl rfl rfl rfl (fun w' hf => O.load sc31 rfl (Cs.adds [1] ((hM.bx (i := 5) rfl).fut hf) rfl)) ?_
                        refine RD.p rfl rfl rfl rfl (fun w' => O.fldA fl63_1 (by decide) rfl) ?_
                        refine RD.q rfl rfl rfl rfl (fun w' hf => O.load sc31 rfl (Cs.adds [1] ((hM.bx (i := 5) rfl).fut hf) rfl)) ?_
                        refine obindE hF fun xv1881 hx1880 hF => ?_
                        have hA1879 := Rd.atN (f := (eI .u8)) (s := 1) (fun _ => rfl) (by decide) (hM.rd (i := 4) rfl) hx1880
                        refine RD.q rfl rfl rfl rfl (fun w' hf => O.idxA sl31 (hA1879.fut hf) rfl rfl) ?_
                        refine RD.q rfl rfl rfl rfl (fun w' hf => O.load sc5 rfl (hA1879.fut hf).cells.at0) ?_
                        refine RD.p rfl rfl rfl rfl (fun w' => O.and rfl rfl) ?_
                        refine obindE hF fun xv1884 hx1883 hF => ?_
                        have hA1882 := Rd.atN (f := (eI .u8)) (s := 1) (fun _ => rfl) (by decide) (hM.rd (i := 4) rfl) hx1883
                        refine RD.q rfl rfl rfl rfl (fun w' hf => O.idxA sl31 (hA1882.fut hf) rfl rfl) ?_
                        refine RD.meffs rfl rfl rfl (E.stR (enc := (eI .u8)) (j := 4) (off := 0) (vs := [.int .u8 (bits .and .u8 xv1881 249)]) (x' := (bits .and .u8 xv1881 249)) hM rfl (fun _ => rfl) hx1883 sz5 rfl (addsR_eq [] rfl) rfl rfl (One.all rfl) rfl rfl) fun w1885 hM1 => ?_
                        clear hM
                        obtain ⟨hM, hn1886⟩ := hM1
                        refine RD.reslot (t := 86) rfl hn1886 ?_
                        refine RD.reslot (t := 92) rfl hn1886 ?_
                        refine RD.reslot (t := 94) rfl hn1886 ?_
                        replace hM := hM.rebox (i := 5) (cs' := [.int .u8 xv1766, .slice A1835 (((xv1837.set (0 : Int).toNat (IntKind.u8.wrap (Int.tmod nv1701 2))).set (1 : Int).toNat (bits .and .u8 xv1881 249))).length c1836]) rfl (by rw [← hn1886])
                        refine RD.nil ?_
                        refine KQ.then_k ?_
                        exact fun a ha => ⟨A1864, c1865, css1866, Z1867, A1835, c1836, cv1869, ((xv1837.set (0 : Int).toNat (IntKind.u8.wrap (Int.tmod nv1701 2))).set (1 : Int).toNat (bits .and .u8 xv1881 249)), ha.less (less_cons rfl (less_cons rfl (less_cons rfl (less_cons rfl (less_cons rfl (less_cons rfl less_nil)))))), hM, hF⟩
                      · rw [if_neg (ne_true hc)] at hF
                        refine KC.skip ?_
                        refine KQ.then_k ?_
                        exact fun a ha => ⟨A1864, c1865, css1866, Z1867, A1835, c1836, cv1869, xv1837, ha.less (less_cons rfl (less_cons rfl (less_cons rfl (less_cons rfl (less_cons rfl (less_cons rfl less_nil)))))), hM, hF⟩
                  · rintro a w1901 ⟨A1890, c1891, css1892, Z1893, A1898, c1899, cv1895, xv1900, ha, hM, hF⟩
                    refine KC.app ha ?_
                    clear ha
                    unfold F_law06_IpsixKnown_j3 at hF
                    refine KC.seq ?_
                    refine KC.region ?_
                    refine RL.val (O.fldA fl24_0 (by decide) rfl) rfl ?_
                    refine RL.val (O.load sc22 rfl (Cs.adds [0] ((hM.bx (i := 3) rfl)) rfl)) rfl ?_
                    refine RL.val (O.loadN (cs := [.int .u8 xv1766, .slice A1898 (xv1900).length c1899]) ag63 rfl (Cs.addsN [] ((hM.bx (i := 5) rfl)) rfl)) rfl ?_
                    refine RL.eff (E.bslD (css := ([[.int .u8 xv1766, .slice A1898 (xv1900).length c1899]] : List (List Value))) hM sl22 ze63 rfl rfl rfl rfl rfl (by kernel_rfl) rfl) rfl fun v w1902 hv => ?_
                    clear hM
                    obtain ⟨A1903, rfl, hM, hf⟩ := hv
                    have hp1907 := (hM.pick [4] rfl (by decide)).sep
                    obtain ⟨Z1904, hM⟩ := hM.glue [4] [0, 1, 2, 3, 5, 6] rfl rfl (by decide) rfl (Els RO_ipsix_Ext 2 [(T_ipsix_Ext.mk xv1766 xv1900)] ([[.int .u8 xv1766, .slice A1898 (xv1900).length c1899]] : List (List Value))) (fun Z w1 ho hz => Els.lit (El3.cons rfl ⟨A1898, c1899, rfl, rfl⟩ El3.nil) rfl ho hz hp1907)
                    refine cut_someE hF fun hq1911 hF => ?_
                    refine RL.eff (E.appD (xs := cv1895) (ys := [(T_ipsix_Ext.mk xv1766 xv1900)]) (css := css1892) (cs2 := ([[.int .u8 xv1766, .slice A1898 (xv1900).length c1899]] : List (List Value))) (j := 1) hM rfl sl22 ze63 rfl rfl rfl rfl rfl (hM.rd (i := 5) rfl) (One.all rfl) (of_decide_eq_true hq1911)) rfl fun v w1910 hv => ?_
                    clear hM
                    obtain ⟨A1908, c1909, rfl, hM, hf⟩ := hv
                    have hp1913 := hM.sep
                    obtain ⟨Z1912, hM⟩ := hM.glue [2, 6] [0, 1, 3, 4] rfl rfl (by decide) rfl (Els RO_ipsix_Ext 2 (cv1895 ++ [(T_ipsix_Ext.mk xv1766 xv1900)]) (css1892 ++ ([[.int .u8 xv1766, .slice A1898 (xv1900).length c1899]] : List (List Value)))) (fun Z w1 ho hz => Els.app (Ob.res_φ (ho 0 _ rfl)) (Ob.res_φ (ho 1 _ rfl)) (fun g hg => hz 0 _ g rfl (Ob.has_res.2 hg)) (fun g hg => hz 1 _ g rfl (Ob.has_res.2 hg)) (fun g h1 h2 => absurd (hp1913 2 6 _ _ g rfl rfl (Ob.has_res.2 h1) (Ob.has_res.2 h2)) (by decide)))
                    refine RL.val (O.fldA fl24_0 (by decide) rfl) rfl ?_
                    refine RL.effs (E.stB (j := 2) (off := 0) (vs := [.slice A1908 ((cv1895 ++ [(T_ipsix_Ext.mk xv1766 xv1900)])).length c1909]) (cs' := [.slice A1908 ((cv1895 ++ [(T_ipsix_Ext.mk xv1766 xv1900)])).length c1909, .int .u8 0]) hM rfl sz22 rfl (adds_eq [0] rfl) rfl rfl (One.all rfl) rfl rfl) fun w1916 hM1 => ?_
                    clear hM
                    have hM := hM1
                    clear hM1
                    refine RL.nil ?_
                    refine KQ.then_n ?_
                    refine KC.region ?_
                    refine RL.val (O.move rfl) rfl ?_
                    refine RL.val (O.mul rfl rfl) rfl ?_
                    refine RL.val (O.move rfl) rfl ?_
                    refine RL.val (O.mul rfl rfl) rfl ?_
                    refine RL.val (O.add rfl rfl) rfl ?_
                    refine RL.val (O.add rfl rfl) rfl ?_
                    refine RL.val (O.rem rfl rfl (by decide)) rfl ?_
                    refine RL.val (O.assign rfl) rfl ?_
                    refine RL.nil ?_
                    refine KQ.blk_n ?_
                    refine KQ.then_n ?_
                    refine KC.region ?_
                    refine RL.val (O.move rfl) rfl ?_
                    refine RL.val (O.sub rfl rfl) rfl ?_
                    refine RL.val (O.assign rfl) rfl ?_
                    refine RL.nil ?_
                    refine KQ.then_k ?_
                    replace hM := hM.pick [0, 1, 4, 2] rfl (by decide)
                    exact fun a ha => ⟨k1713, Nat.lt_succ_self k1713, A1908, c1909, (css1892 ++ ([[.int .u8 xv1766, .slice A1898 (xv1900).length c1899]] : List (List Value))), Z1912, (Int.tmod (IntKind.i64.wrap ((IntKind.i64.wrap ((IntKind.i64.wrap (nv1701 * 31)) + (IntKind.i64.wrap (7 * kv1710)))) + 11)) 100003), (cv1895 ++ [(T_ipsix_Ext.mk xv1766 xv1900)]), (IntKind.i64.wrap (kv1710 - 1)), ha.less (less_cons rfl (less_cons rfl (less_cons rfl (less_cons rfl (less_cons rfl less_nil))))), hM, hF⟩
        · rw [if_neg (ne_true hc)] at hF
          refine KC.exit ?_
          refine KQ.then_x ?_
          refine KQ.then_x ?_
          refine KQ.blk_x ?_
          refine KQ.then_n ?_
          refine KC.seq ?_
          refine KC.region ?_
          refine RL.val (O.move rfl) rfl ?_
          refine RL.val (O.move rfl) rfl ?_
          refine RL.val (O.quo rfl rfl (by decide)) rfl ?_
          refine RL.val (O.rem rfl rfl (by decide)) rfl ?_
          refine obindE hF fun xv1919 hx1918 hF => ?_
          have hA1917 := Rd.atN (f := (eI .u8)) (s := 1) (fun _ => rfl) (by decide) (hM.rd (i := 0) rfl) hx1918
          refine RL.val (O.idxA sl31 (hA1917) rfl rfl) rfl ?_
          refine RL.val (O.load sc5 rfl (hA1917).cells.at0) rfl ?_
          refine RL.val (O.fldA fl24_1 (by decide) rfl) rfl ?_
          refine RL.effs (E.stB (j := 3) (off := 1) (vs := [.int .u8 xv1919]) (cs' := [.slice A1704 (cv1709).length c1705, .int .u8 xv1919]) hM rfl sz5 rfl (adds_eq [1] rfl) rfl rfl (One.all rfl) rfl rfl) fun w1920 hM1 => ?_
          clear hM
          have hM := hM1
          clear hM1
          refine RL.nil ?_
          refine KQ.then_n ?_
          refine KC.seq ?_
          refine KC.region ?_
          refine RL.val (O.loadN (cs := [.slice A1704 (cv1709).length c1705, .int .u8 xv1919]) ag24 rfl (Cs.addsN [] ((hM.bx (i := 3) rfl)) rfl)) rfl ?_
          refine obindE hF fun y1921 hx1922 hF => ?_
          refine RL.call Try.func11 bd11 rfl rfl (c_ipsix_PutChain _ (T_ipsix_Chain.mk cv1709 xv1919) _ _ (hM.rdD (i := 1) (j := 2) uo_ipsix_Ext rfl rfl) _ hx1922) fun v w1923 hv => ?_
          obtain ⟨A1925, c1926, rfl, hN1924⟩ := hv
          replace hM := hM.call hN1924
          refine RL.val (O.move rfl) rfl ?_
          refine RL.val (O.ext rfl rfl) rfl ?_
          refine RL.val (O.ext rfl rfl) rfl ?_
          refine RL.val (O.ext rfl rfl) rfl ?_
          refine RL.val (O.assign rfl) rfl ?_
          refine RL.val (O.assign rfl) rfl ?_
          refine RL.val (O.assign rfl) rfl ?_
          refine RL.nil ?_
          refine KQ.then_n ?_
          refine KC.cut (fun a w1959 => ∃ (A1949 : Option Addr) (c1950 : Nat) (css1951 : List (List Value)) (Z1952 : List Nat) (A1956 : Option Addr) (c1957 : Nat) (cv1954 : List T_ipsix_Ext) (b1958 : List Int), Kn 266 [(1, .slice A2 (([0, 43, 44, 60, 6, 17, 59, 255] : List Int)).length 8), (2, .int .i64 nv1701), (3, .int .i64 i1329), (4, .pointer (some ⟨g1333, 0, none⟩)), (8, .slice A1956 (b1958).length c1957), (9, .int .u8 y1921.2.1)] a ∧ Mem w [] w1959 [.row A2 8 5 1 (([0, 43, 44, 60, 6, 17, 59, 255] : List Int)).length ((([0, 43, 44, 60, 6, 17, 59, 255] : List Int)).flatMap (eI .u8)), .row A1949 c1950 63 2 (cv1954).length (css1951).flatten, .res Z1952 (Els RO_ipsix_Ext 2 cv1954 css1951 Z1952), .box g1333 24 [.slice A1949 (cv1954).length c1950, .int .u8 xv1919], .row A1956 c1957 5 1 (b1958).length ((b1958).flatMap (eI .u8))] ∧ F_law06_IpsixKnown_j5 i1329 (F_law06_IpsixKnown_L1 k1332) nv1701 xv1919 y1921 cv1954 b1958 = some r) ?_ ?_
          · refine KC.cut (fun a w1939 => ∃ (A1931 : Option Addr) (c1932 : Nat) (css1933 : List (List Value)) (Z1934 : List Nat) (cv1936 : List T_ipsix_Ext) (t1938 : Bool), Kn 266 [(1, .slice A2 (([0, 43, 44, 60, 6, 17, 59, 255] : List Int)).length 8), (2, .int .i64 nv1701), (3, .int .i64 i1329), (4, .pointer (some ⟨g1333, 0, none⟩)), (8, .slice A1925 (y1921.1).length c1926), (9, .int .u8 y1921.2.1), (132, .bool t1938)] a ∧ Mem w [] w1939 [.row A2 8 5 1 (([0, 43, 44, 60, 6, 17, 59, 255] : List Int)).length ((([0, 43, 44, 60, 6, 17, 59, 255] : List Int)).flatMap (eI .u8)), .row A1931 c1932 63 2 (cv1936).length (css1933).flatten, .res Z1934 (Els RO_ipsix_Ext 2 cv1936 css1933 Z1934), .box g1333 24 [.slice A1931 (cv1936).length c1932, .int .u8 xv1919], .row A1925 c1926 5 1 (y1921.1).length ((y1921.1).flatMap (eI .u8))] ∧ F_law06_IpsixKnown_j7 i1329 (F_law06_IpsixKnown_L1 k1332) nv1701 xv1919 y1921 cv1936 t1938 = some r) ?_ ?_
            · refine KC.region ?_
              refine RL.val (O.move rfl) rfl ?_
              refine RL.val (O.len sl31 rfl) rfl ?_
              refine RL.val (O.gtr rfl rfl) rfl ?_
              refine RL.val (O.move rfl) rfl ?_
              refine RL.bcase (t := 128) rfl (fun hc => ?_) (fun hc => ?_)
              · rw [if_pos hc] at hF
                refine RL.gval rfl rfl (O.move rfl) rfl ?_
                refine RL.gval rfl rfl (O.rem rfl rfl (by decide)) rfl ?_
                refine RL.gval rfl rfl (O.eql rfl rfl) rfl ?_
                refine RL.val (O.pickt rfl rfl) rfl ?_
                refine RL.nil ?_
                refine KQ.then_k ?_
                exact fun a ha => ⟨A1704, c1705, css1706, Z1707, cv1709, ((Int.tmod i1329 4) == 0), ha.less (less_cons rfl (less_cons rfl (less_cons rfl (less_cons rfl (less_cons rfl (less_cons rfl (less_cons rfl less_nil))))))), hM, hF⟩
              · rw [if_neg (ne_true hc)] at hF
                refine RL.gskip rfl rfl rfl rfl ?_
                refine RL.gskip rfl rfl rfl rfl ?_
                refine RL.gskip rfl rfl rfl rfl ?_
                refine RL.val (O.pickf rfl rfl) rfl ?_
                refine RL.nil ?_
                refine KQ.then_k ?_
                exact fun a ha => ⟨A1704, c1705, css1706, Z1707, cv1709, false, ha.less (less_cons rfl (less_cons rfl (less_cons rfl (less_cons rfl (less_cons rfl (less_cons rfl (less_cons rfl less_nil))))))), hM, hF⟩
            · rintro a w1939 ⟨A1931, c1932, css1933, Z1934, cv1936, t1938, ha, hM, hF⟩
              refine KC.app ha ?_
              clear ha
              unfold F_law06_IpsixKnown_j7 at hF
              refine KC.cond rfl (fun hc => ?_) (fun hc => ?_)
              · rw [if_pos hc] at hF
                refine KC.region ?_
                refine RL.val (O.move rfl) rfl ?_
                refine RL.val (O.move rfl) rfl ?_
                refine RL.val (O.move rfl) rfl ?_
                refine RL.val (O.len sl31 rfl) rfl ?_
                refine cut_someE hF fun hq1940 hF => ?_
                refine RL.val (O.rem rfl rfl (of_decide_eq_true hq1940)) rfl ?_
                refine RL.val (O.move rfl) rfl ?_
                refine RL.val (O.conv un3 Try.underlying5 rfl) rfl ?_
                refine obindE hF fun xv1943 hx1942 hF => ?_
                have hA1941 := Rd.atN (f := (eI .u8)) (s := 1) (fun _ => rfl) (by decide) (hM.rd (i := 4) rfl) hx1942
                refine RL.val (O.idxA sl31 (hA1941) rfl rfl) rfl ?_
                refine RL.effs (E.stR (enc := (eI .u8)) (j := 4) (off := 0) (vs := [.int .u8 (IntKind.u8.wrap nv1701)]) (x' := (IntKind.u8.wrap nv1701)) hM rfl (fun _ => rfl) hx1942 sz5 rfl (addsR_eq [] rfl) rfl rfl (One.all rfl) rfl rfl) fun w1944 hM1 => ?_
                clear hM
                obtain ⟨hM, hn1945⟩ := hM1
                refine RL.reslot (t := 8) rfl hn1945 ?_
                refine RL.reslot (t := 133) rfl hn1945 ?_
                refine RL.reslot (t := 135) rfl hn1945 ?_
                refine RL.nil ?_
                refine KQ.then_k ?_
                exact fun a ha => ⟨A1931, c1932, css1933, Z1934, A1925, c1926, cv1936, (y1921.1.set ((Int.tmod nv1701 (y1921.1.length : Int)) : Int).toNat (IntKind.u8.wrap nv1701)), ha.less (less_cons rfl (less_cons rfl (less_cons rfl (less_cons rfl (less_cons rfl (less_cons rfl less_nil)))))), hM, hF⟩
              · rw [if_neg (ne_true hc)] at hF
                refine KC.skip ?_
                refine KQ.then_k ?_
                exact fun a ha => ⟨A1931, c1932, css1933, Z1934, A1925, c1926, cv1936, y1921.1, ha.less (less_cons rfl (less_cons rfl (less_cons rfl (less_cons rfl (less_cons rfl (less_cons rfl less_nil)))))), hM, hF⟩
          · rintro a w1959 ⟨A1949, c1950, css1951, Z1952, A1956, c1957, cv1954, b1958, ha, hM, hF⟩
            refine KC.app ha ?_
            clear ha
            unfold F_law06_IpsixKnown_j5 at hF
            refine KC.cut (fun a w1992 => ∃ (t1991 : Bool), Kn 266 [(1, .slice A2 (([0, 43, 44, 60, 6, 17, 59, 255] : List Int)).length 8), (2, .int .i64 nv1701), (3, .int .i64 i1329), (187, .bool t1991)] a ∧ Mem w [] w1992 [.row A2 8 5 1 (([0, 43, 44, 60, 6, 17, 59, 255] : List Int)).length ((([0, 43, 44, 60, 6, 17, 59, 255] : List Int)).flatMap (eI .u8))] ∧ F_law06_IpsixKnown_j6 i1329 (F_law06_IpsixKnown_L1 k1332) nv1701 t1991 = some r) ?_ ?_
            · replace hM := hM.drewN 1
              refine KC.draw [] [] [4, 15, 18, 34, 44] [1, 5, 6, 7, 8, 9, 10, 13, 14, 16, 17, 19, 20, 21, 22, 23, 24, 25, 26, 27, 28, 29, 30, 31, 32, 33, 35, 36, 37, 38, 39, 40, 43, 45, 46] (.ofList [0, 1, 2, 3, 4, 5, 6, 7, 8, 9, 10, 11, 12, 13, 14, 16, 17, 15, 18, 19, 20, 21, 22, 23, 24, 25, 26, 27, 28, 29, 30, 31, 32, 33, 34, 35, 36, 37, 38, 39, 40, 41, 42, 43, 44, 45, 46]) moP (by kernel_rfl) ?_
              refine RD.q rfl rfl rfl rfl (fun w' hf => O.loadN (cs := [.slice A1949 (cv1954).length c1950, .int .u8 xv1919]) ag24 rfl (Cs.addsN [] ((hM.bx (i := 3) rfl).fut hf) rfl)) ?_
              refine RD.p rfl rfl rfl rfl (fun w' => O.fldA fl24_0 (by decide) rfl) ?_
              refine RD.q rfl rfl rfl rfl (fun w' hf => O.load sc22 rfl (Cs.adds [0] ((hM.bx (i := 3) rfl).fut hf) rfl)) ?_
              refine RD.q rfl rfl rfl rfl (fun w' hf => O.bld (cs := [.slice A1949 (cv1954).length c1950, .int .u8 6]) bt24 rfl (by kernel_rfl)) ?_
              refine obindE hF fun y1960 hx1961 hF => ?_
              refine RD.mcall rfl rfl trivial Try.func3 bd3 rfl rfl (c_law06_IpsixChains _ (T_ipsix_Chain.mk cv1954 xv1919) _ _ (hM.rdD (i := 1) (j := 2) uo_ipsix_Ext rfl rfl) (T_ipsix_Chain.mk cv1954 6) _ _ (hM.rdD (i := 1) (j := 2) uo_ipsix_Ext rfl rfl) _ hx1961) fun v w1962 hv => ?_
              obtain ⟨rfl, hN1963⟩ := hv
              refine ⟨fun _ => hN1963.fut, ?_⟩
              replace hM := hM.call0 hN1963
              refine RD.p rfl rfl rfl rfl (fun w' => O.not rfl) ?_
              refine RD.p rfl rfl rfl rfl (fun w' => O.move rfl) ?_
              refine RD.bcase (t := 147) rfl (fun hc => ?_) (fun hc => ?_)
              · rw [if_pos hc] at hF
                refine RD.gskip rfl rfl rfl rfl rfl ?_
                refine RD.gskip rfl rfl rfl rfl rfl ?_
                refine RD.gskip rfl rfl rfl rfl rfl ?_
                refine RD.gskip rfl rfl rfl rfl rfl ?_
                refine RD.gskip rfl rfl rfl rfl rfl ?_
                refine RD.gskip rfl rfl rfl rfl rfl ?_
                refine RD.gskip rfl rfl rfl rfl rfl ?_
                refine RD.gskip rfl rfl rfl rfl rfl ?_
                refine RD.gskip rfl rfl rfl rfl rfl ?_
                refine RD.gskip rfl rfl rfl rfl rfl ?_
                refine RD.gskip rfl rfl rfl rfl rfl ?_
                refine RD.gskip rfl rfl rfl rfl rfl ?_
                refine RD.gskip rfl rfl rfl rfl rfl ?_
                refine RD.p rfl rfl rfl rfl (fun w' => O.pickt rfl rfl) ?_
                refine RD.p rfl rfl rfl rfl (fun w' => O.move rfl) ?_
                refine RD.gskip rfl rfl rfl rfl rfl ?_
                refine RD.gskip rfl rfl rfl rfl rfl ?_
                refine RD.gskip rfl rfl rfl rfl rfl ?_
                refine RD.gskip rfl rfl rfl rfl rfl ?_
                refine RD.gskip rfl rfl rfl rfl rfl ?_
                refine RD.gskip rfl rfl rfl rfl rfl ?_
                refine RD.gskip rfl rfl rfl rfl rfl ?_
                refine RD.gskip rfl rfl rfl rfl rfl ?_
                refine RD.gskip rfl rfl rfl rfl rfl ?_
                refine RD.gskip rfl rfl rfl rfl rfl ?_
                refine RD.gskip rfl rfl rfl rfl rfl ?_
                refine RD.gskip rfl rfl rfl rfl rfl ?_
                refine RD.gskip rfl rfl rfl rfl rfl ?_
                refine RD.gskip rfl rfl rfl rfl rfl ?_
                refine RD.p rfl rfl rfl rfl (fun w' => O.pickt rfl rfl) ?_
                refine RD.p rfl rfl rfl rfl (fun w' => O.move rfl) ?_
                refine RD.gskip rfl rfl rfl rfl rfl ?_
                refine RD.gskip rfl rfl rfl rfl rfl ?_
                refine RD.gskip rfl rfl rfl rfl rfl ?_
                refine RD.gskip rfl rfl rfl rfl rfl ?_
                refine RD.gskip rfl rfl rfl rfl rfl ?_
                refine RD.gskip rfl rfl rfl rfl rfl ?_
                refine RD.gskip rfl rfl rfl rfl rfl ?_
                refine RD.gskip rfl rfl rfl rfl rfl ?_
                refine RD.p rfl rfl rfl rfl (fun w' => O.pickt rfl rfl) ?_
                refine RD.nil ?_
                refine KQ.then_k ?_
                replace hM := hM.pick [0] rfl (by decide)
                exact fun a ha => ⟨true, ha.less (less_cons rfl (less_cons rfl (less_cons rfl (less_cons rfl less_nil)))), hM, hF⟩
              · rw [if_neg (ne_true hc)] at hF
                refine RD.gp rfl rfl rfl rfl rfl rfl (fun w' => O.move rfl) ?_
                refine RD.gp rfl rfl rfl rfl rfl rfl (fun w' => O.conv un3 Try.underlying5 rfl) ?_
                refine RD.gp rfl rfl rfl rfl rfl rfl (fun w' => O.move rfl) ?_
                refine RD.gp rfl rfl rfl rfl rfl rfl (fun w' => O.conv un3 Try.underlying37 rfl) ?_
                refine RD.gq rfl rfl rfl rfl rfl rfl (fun w' hf => O.bld (cs := [.int .u8 (IntKind.u8.wrap nv1701), .int .u32 (IntKind.u32.wrap nv1701), .int .u16 0, .int .u8 0, .int .u8 1, .int .u8 (List.getD (List.replicate 16 0) 0 0), .int .u8 (List.getD (List.replicate 16 0) 1 0), .int .u8 (List.getD (List.replicate 16 0) 2 0), .int .u8 (List.getD (List.replicate 16 0) 3 0), .int .u8 (List.getD (List.replicate 16 0) 4 0), .int .u8 (List.getD (List.replicate 16 0) 5 0), .int .u8 (List.getD (List.replicate 16 0) 6 0), .int .u8 (List.getD (List.replicate 16 0) 7 0), .int .u8 (List.getD (List.replicate 16 0) 8 0), .int .u8 (List.getD (List.replicate 16 0) 9 0), .int .u8 (List.getD (List.replicate 16 0) 10 0), .int .u8 (List.getD (List.replicate 16 0) 11 0), .int .u8 (List.getD (List.replicate 16 0) 12 0), .int .u8 (List.getD (List.replicate 16 0) 13 0), .int .u8 (List.getD (List.replicate 16 0) 14 0), .int .u8 (List.getD (List.replicate 16 0) 15 0), .int .u8 (List.getD (List.replicate 16 0) 0 0), .int .u8 (List.getD (List.replicate 16 0) 1 0), .int .u8 (List.getD (List.replicate 16 0) 2 0), .int .u8 (List.getD (List.replicate 16 0) 3 0), .int .u8 (List.getD (List.replicate 16 0) 4 0), .int .u8 (List.getD (List.replicate 16 0) 5 0), .int .u8 (List.getD (List.replicate 16 0) 6 0), .int .u8 (List.getD (List.replicate 16 0) 7 0), .int .u8 (List.getD (List.replicate 16 0) 8 0), .int .u8 (List.getD (List.replicate 16 0) 9 0), .int .u8 (List.getD (List.replicate 16 0) 10 0), .int .u8 (List.getD (List.replicate 16 0) 11 0), .int .u8 (List.getD (List.replicate 16 0) 12 0), .int .u8 (List.getD (List.replicate 16 0) 13 0), .int .u8 (List.getD (List.replicate 16 0) 14 0), .int .u8 (List.getD (List.replicate 16 0) 15 0)]) bt52 rfl (by kernel_rfl)) ?_
                refine RD.gq rfl rfl rfl rfl rfl rfl (fun w' hf => O.loadN (cs := [.slice A1949 (cv1954).length c1950, .int .u8 xv1919]) ag24 rfl (Cs.addsN [] ((hM.bx (i := 3) rfl).fut hf) rfl)) ?_
                refine RD.gp rfl rfl rfl rfl rfl rfl (fun w' => O.move rfl) ?_
                refine RD.gp rfl rfl rfl rfl rfl rfl (fun w' => O.rem rfl rfl (by decide)) ?_
                refine RD.gp rfl rfl rfl rfl rfl rfl (fun w' => O.move rfl) ?_
                refine RD.gp rfl rfl rfl rfl rfl rfl (fun w' => O.move rfl) ?_
                refine cut_someE hF fun hq1966 hF => ?_
                refine RD.gmeff rfl rfl rfl rfl (E.mks (enc := (eI .u8)) (zr := 0) hM sl31 ze5 rfl rfl (fun _ => rfl) rfl rfl rfl (of_decide_eq_true hq1966)) rfl fun v w1965 hv => ?_
                clear hM
                obtain ⟨A1964, rfl, hM, hf⟩ := hv
                refine ⟨fun _ => hf, ?_⟩
                refine obindE hF fun y1968 hx1969 hF => ?_
                refine RD.mcall rfl rfl ⟨rfl, rfl⟩ Try.func6 bd6 rfl rfl (c_law06_IpsixBack _ (T_ipsix_Header.mk (IntKind.u8.wrap nv1701) (IntKind.u32.wrap nv1701) 0 0 1 (List.replicate 16 0) (List.replicate 16 0)) (T_ipsix_Chain.mk cv1954 xv1919) _ _ (hM.rdD (i := 1) (j := 2) uo_ipsix_Ext rfl rfl) _ _ (List.replicate (Int.toNat (Int.tmod nv1701 20)) (0 : Int)) (hM.rd (i := 5) rfl) y1921.2.1 _ _ b1958 (hM.rd (i := 4) rfl) _ hx1969) fun v w1970 hv => ?_
                obtain ⟨rfl, hN1971⟩ := hv
                refine ⟨fun _ => hN1971.fut, ?_⟩
                replace hM := hM.call0 hN1971
                refine RD.gp rfl rfl rfl rfl rfl rfl (fun w' => O.not rfl) ?_
                refine RD.p rfl rfl rfl rfl (fun w' => O.pickf rfl rfl) ?_
                refine RD.p rfl rfl rfl rfl (fun w' => O.move rfl) ?_
                refine RD.bcase (t := 162) rfl (fun hc => ?_) (fun hc => ?_)
                · rw [if_pos hc] at hF
                  refine RD.gskip rfl rfl rfl rfl rfl ?_
                  refine RD.gskip rfl rfl rfl rfl rfl ?_
                  refine RD.gskip rfl rfl rfl rfl rfl ?_
                  refine RD.gskip rfl rfl rfl rfl rfl ?_
                  refine RD.gskip rfl rfl rfl rfl rfl ?_
                  refine RD.gskip rfl rfl rfl rfl rfl ?_
                  refine RD.gskip rfl rfl rfl rfl rfl ?_
                  refine RD.gskip rfl rfl rfl rfl rfl ?_
                  refine RD.gskip rfl rfl rfl rfl rfl ?_
                  refine RD.gskip rfl rfl rfl rfl rfl ?_
                  refine RD.gskip rfl rfl rfl rfl rfl ?_
                  refine RD.gskip rfl rfl rfl rfl rfl ?_
                  refine RD.gskip rfl rfl rfl rfl rfl ?_
                  refine RD.gskip rfl rfl rfl rfl rfl ?_
                  refine RD.p rfl rfl rfl rfl (fun w' => O.pickt rfl rfl) ?_
                  refine RD.p rfl rfl rfl rfl (fun w' => O.move rfl) ?_
                  refine RD.gskip rfl rfl rfl rfl rfl ?_
                  refine RD.gskip rfl rfl rfl rfl rfl ?_
                  refine RD.gskip rfl rfl rfl rfl rfl ?_
                  refine RD.gskip rfl rfl rfl rfl rfl ?_
                  refine RD.gskip rfl rfl rfl rfl rfl ?_
                  refine RD.gskip rfl rfl rfl rfl rfl ?_
                  refine RD.gskip rfl rfl rfl rfl rfl ?_
                  refine RD.gskip rfl rfl rfl rfl rfl ?_
                  refine RD.p rfl rfl rfl rfl (fun w' => O.pickt rfl rfl) ?_
                  refine RD.nil ?_
                  refine KQ.then_k ?_
                  replace hM := hM.pick [0] rfl (by decide)
                  exact fun a ha => ⟨true, ha.less (less_cons rfl (less_cons rfl (less_cons rfl (less_cons rfl less_nil)))), hM, hF⟩
                · rw [if_neg (ne_true hc)] at hF
                  refine RD.gp rfl rfl rfl rfl rfl rfl (fun w' => O.move rfl) ?_
                  refine RD.gp rfl rfl rfl rfl rfl rfl (fun w' => O.move rfl) ?_
                  refine RD.gp rfl rfl rfl rfl rfl rfl (fun w' => O.move rfl) ?_
                  refine RD.gp rfl rfl rfl rfl rfl rfl (fun w' => O.len sl31 rfl) ?_
                  refine RD.gp rfl rfl rfl rfl rfl rfl (fun w' => O.move rfl) ?_
                  refine RD.gp rfl rfl rfl rfl rfl rfl (fun w' => O.rem rfl rfl (by decide)) ?_
                  refine RD.gp rfl rfl rfl rfl rfl rfl (fun w' => O.move rfl) ?_
                  refine RD.gp rfl rfl rfl rfl rfl rfl (fun w' => O.len sl31 rfl) ?_
                  refine RD.gp rfl rfl rfl rfl rfl rfl (fun w' => O.min2 rfl rfl) ?_
                  refine RD.gp rfl rfl rfl rfl rfl rfl (fun w' => O.mul rfl rfl) ?_
                  refine RD.gp rfl rfl rfl rfl rfl rfl (fun w' => O.sub rfl rfl) ?_
                  refine obindE hF fun cut1972 hy1973 hF => ?_
                  obtain ⟨A1974, c1975, eA1977, ec1978⟩ := cutN A1956 c1957 (Int.toNat 0) 1
                  have hr1976 := Rd.cutT (enc := (eI .u8)) (s := 1) (fun _ => rfl) (hM.rd (i := 4) rfl) hy1973 (m := c1957) (by have := (hM.rd (i := 4) rfl).cap; have := (gcut_some hy1973).2.2.1; omega) (Nat.le_refl _)
                  rw [← eA1977, ← ec1978] at hr1976
                  refine RD.gp (v := .slice A1974 (cut1972).length c1975) rfl rfl rfl rfl rfl rfl (fun w' => (by rw [eA1977, ec1978]; exact O.cuthT sl31 (hM.rd (i := 4) rfl) hy1973 rfl rfl)) ?_
                  refine obindE hF fun y1979 hx1980 hF => ?_
                  refine RD.mcall rfl rfl ⟨rfl, rfl⟩ Try.func4 bd4 rfl rfl (c_law06_IpsixParses _ y1921.2.1 _ _ cut1972 hr1976 _ hx1980) fun v w1981 hv => ?_
                  obtain ⟨rfl, hN1982⟩ := hv
                  refine ⟨fun _ => hN1982.fut, ?_⟩
                  have hr1976 := hr1976.fut hN1982.fut
                  replace hM := hM.call0 hN1982
                  refine RD.gp rfl rfl rfl rfl rfl rfl (fun w' => O.not rfl) ?_
                  refine RD.p rfl rfl rfl rfl (fun w' => O.pickf rfl rfl) ?_
                  refine RD.p rfl rfl rfl rfl (fun w' => O.move rfl) ?_
                  refine RD.bcase (t := 178) rfl (fun hc => ?_) (fun hc => ?_)
                  · rw [if_pos hc] at hF
                    refine RD.gskip rfl rfl rfl rfl rfl ?_
                    refine RD.gskip rfl rfl rfl rfl rfl ?_
                    refine RD.gskip rfl rfl rfl rfl rfl ?_
                    refine RD.gskip rfl rfl rfl rfl rfl ?_
                    refine RD.gskip rfl rfl rfl rfl rfl ?_
                    refine RD.gskip rfl rfl rfl rfl rfl ?_
                    refine RD.gskip rfl rfl rfl rfl rfl ?_
                    refine RD.gskip rfl rfl rfl rfl rfl ?_
                    refine RD.p rfl rfl rfl rfl (fun w' => O.pickt rfl rfl) ?_
                    refine RD.nil ?_
                    refine KQ.then_k ?_
                    replace hM := hM.pick [0] rfl (by decide)
                    exact fun a ha => ⟨true, ha.less (less_cons rfl (less_cons rfl (less_cons rfl (less_cons rfl less_nil)))), hM, hF⟩
                  · rw [if_neg (ne_true hc)] at hF
                    refine RD.gp rfl rfl rfl rfl rfl rfl (fun w' => O.move rfl) ?_
                    refine RD.gp rfl rfl rfl rfl rfl rfl (fun w' => O.move rfl) ?_
                    refine RD.gp rfl rfl rfl rfl rfl rfl (fun w' => O.rem rfl rfl (by decide)) ?_
                    refine obindE hF fun xv1985 hx1984 hF => ?_
                    have hA1983 := Rd.atN (f := (eI .u8)) (s := 1) (fun _ => rfl) (by decide) (hM.rd (i := 0) rfl) hx1984
                    refine RD.gq rfl rfl rfl rfl rfl rfl (fun w' hf => O.idxA sl31 (hA1983.fut hf) rfl rfl) ?_
                    refine RD.gq rfl rfl rfl rfl rfl rfl (fun w' hf => O.load sc5 rfl (hA1983.fut hf).cells.at0) ?_
                    refine RD.gp rfl rfl rfl rfl rfl rfl (fun w' => O.move rfl) ?_
                    refine obindE hF fun y1986 hx1987 hF => ?_
                    refine RD.mcall rfl rfl ⟨rfl, rfl⟩ Try.func4 bd4 rfl rfl (c_law06_IpsixParses _ xv1985 _ _ b1958 (hM.rd (i := 4) rfl) _ hx1987) fun v w1988 hv => ?_
                    obtain ⟨rfl, hN1989⟩ := hv
                    refine ⟨fun _ => hN1989.fut, ?_⟩
                    have hr1976 := hr1976.fut hN1989.fut
                    replace hM := hM.call0 hN1989
                    refine RD.gp rfl rfl rfl rfl rfl rfl (fun w' => O.not rfl) ?_
                    refine RD.p rfl rfl rfl rfl (fun w' => O.pickf rfl rfl) ?_
                    refine RD.nil ?_
                    refine KQ.then_k ?_
                    replace hM := hM.pick [0] rfl (by decide)
                    exact fun a ha => ⟨(!y1986), ha.less (less_cons rfl (less_cons rfl (less_cons rfl (less_cons rfl less_nil)))), hM, hF⟩
            · rintro a w1992 ⟨t1991, ha, hM, hF⟩
              refine KC.app ha ?_
              clear ha
              unfold F_law06_IpsixKnown_j6 at hF
              refine KC.cond rfl (fun hc => ?_) (fun hc => ?_)
              · rw [if_pos hc] at hF
                refine KC.seq ?_
                refine KC.region ?_
                refine RL.val (O.assign rfl) rfl ?_
                refine RL.nil ?_
                refine KQ.then_n ?_
                refine KC.ret ?_
                refine KQ.blk_r ?_
                refine KQ.then_r ?_
                refine KQ.then_r ?_
                refine KQ.blk_r ?_
                refine KQ.then_r ?_
                obtain rfl := Option.some.inj hF
                replace hM := hM.pick [] rfl (by decide)
                refine KQ.rets Try.results7 (RVs.cons (RV.tm rfl) RVs.nil) ?_
                exact ⟨_, rfl, rfl, hM⟩
              · rw [if_neg (ne_true hc)] at hF
                refine KC.skip ?_
                refine KQ.blk_n ?_
                refine KQ.then_n ?_
                refine KC.region ?_
                refine RL.val (O.move rfl) rfl ?_
                refine RL.val (O.add rfl rfl) rfl ?_
                refine RL.val (O.assign rfl) rfl ?_
                refine RL.nil ?_
                refine KQ.then_k ?_
                exact fun a ha => ⟨k1332, Nat.lt_succ_self k1332, nv1701, (IntKind.i64.wrap (i1329 + 1)), ha.less (less_cons rfl (less_cons rfl (less_cons rfl less_nil))), hM, hF⟩
    · rw [if_neg (ne_true hc)] at hF
      refine KC.exit ?_
      refine KQ.then_x ?_
      refine KQ.then_x ?_
      refine KQ.blk_x ?_
      refine KQ.then_n ?_
      refine KC.seq ?_
      refine KC.region ?_
      refine RL.val (O.bld (cs := [.slice none 0 0, .int .u8 6]) bt24 rfl (by kernel_rfl)) rfl ?_
      refine RL.eff (E.alloc hM ze24) rfl fun v w1995 hv => ?_
      clear hM
      obtain ⟨g1994, rfl, hM, hf⟩ := hv
      refine RL.effs (E.stB (j := 1) (off := 0) (vs := [.slice none 0 0, .int .u8 6]) (cs' := [.slice none 0 0, .int .u8 6]) hM rfl sz24 rfl (adds_eq [] rfl) rfl rfl (One.all rfl) rfl rfl) fun w1997 hM1 => ?_
      clear hM
      have hM := hM1
      clear hM1
      refine RL.nil ?_
      refine KQ.then_n ?_
      refine KC.seq ?_
      refine KC.seq ?_
      refine KC.region ?_
      refine RL.val (O.assign rfl) rfl ?_
      refine RL.nil ?_
      refine KQ.then_n ?_
      refine KC.block ?_
      refine KC.loop (fun k2088 a w2086 => ∃ (A2079 : Option Addr) (c2080 : Nat) (css2081 : List (List Value)) (Z2082 : List Nat) (long2084 : List T_ipsix_Ext) (i2085 : Int), Kn 266 [(11, .pointer (some ⟨g1994, 0, none⟩)), (12, .int .i64 i2085)] a ∧ Mem w [] w2086 [.row A2079 c2080 63 2 (long2084).length (css2081).flatten, .res Z2082 (Els RO_ipsix_Ext 2 long2084 css2081 Z2082), .box g1994 24 [.slice A2079 (long2084).length c2080, .int .u8 6]] ∧ F_law06_IpsixKnown_L4 k2088 long2084 i2085 = some r) ?_ ?_
      · replace hM := hM.nilrow 63 2
        obtain ⟨Z2395, hM⟩ := hM.glue [] [0, 1, 2] rfl rfl (by decide) rfl (Els RO_ipsix_Ext 2 ([] : List T_ipsix_Ext) []) (fun Z w1 _ _ => Els.nil)
        replace hM := hM.pick [2, 3, 1] rfl (by decide)
        exact fun a ha => ⟨fuel0, none, 0, [], Z2395, ([]), 0, ha.less (less_cons rfl (less_cons rfl less_nil)), hM, hF⟩
      · rintro k2088 a w2086 ⟨A2079, c2080, css2081, Z2082, long2084, i2085, ha, hM, hF⟩
        refine KC.app ha ?_
        clear ha
        cases k2088 with
        | zero => exact (none_some hF).elim
        | succ k2088 =>
        have hF : F_law06_IpsixKnown_l4 (F_law06_IpsixKnown_L4 k2088) long2084 i2085 = some r := hF
        unfold F_law06_IpsixKnown_l4 at hF
        refine KC.seq ?_
        refine KC.seq ?_
        refine KC.region ?_
        refine RL.val (O.move rfl) rfl ?_
        refine RL.val (O.lss rfl rfl) rfl ?_
        refine RL.nil ?_
        refine KQ.then_n ?_
        refine KC.cond rfl (fun hc => ?_) (fun hc => ?_)
        · rw [if_pos hc] at hF
          refine KC.skip ?_
          refine KQ.then_n ?_
          refine KC.seq ?_
          refine KC.block ?_
          refine KC.seq ?_
          refine KC.cut (fun a w2106 => ∃ (A2099 : Option Addr) (c2100 : Nat) (css2101 : List (List Value)) (Z2102 : List Nat) (long2104 : List T_ipsix_Ext) (t2105 : Bool), Kn 266 [(11, .pointer (some ⟨g1994, 0, none⟩)), (12, .int .i64 i2085), (202, .bool t2105)] a ∧ Mem w [] w2106 [.row A2099 c2100 63 2 (long2104).length (css2101).flatten, .res Z2102 (Els RO_ipsix_Ext 2 long2104 css2101 Z2102), .box g1994 24 [.slice A2099 (long2104).length c2100, .int .u8 6]] ∧ F_law06_IpsixKnown_j8 i2085 (F_law06_IpsixKnown_L4 k2088) long2104 t2105 = some r) ?_ ?_
          · refine KC.region ?_
            refine RL.val (O.loadN (cs := [.slice A2079 (long2084).length c2080, .int .u8 6]) ag24 rfl (Cs.addsN [] ((hM.bx (i := 2) rfl)) rfl)) rfl ?_
            refine RL.val (O.loadN (cs := [.slice A2079 (long2084).length c2080, .int .u8 6]) ag24 rfl (Cs.addsN [] ((hM.bx (i := 2) rfl)) rfl)) rfl ?_
            refine obindE hF fun y2089 hx2090 hF => ?_
            refine RL.call Try.func3 bd3 rfl rfl (c_law06_IpsixChains _ (T_ipsix_Chain.mk long2084 6) _ _ (hM.rdD (i := 0) (j := 1) uo_ipsix_Ext rfl rfl) (T_ipsix_Chain.mk long2084 6) _ _ (hM.rdD (i := 0) (j := 1) uo_ipsix_Ext rfl rfl) _ hx2090) fun v w2091 hv => ?_
            obtain ⟨rfl, hN2092⟩ := hv
            replace hM := hM.call0 hN2092
            refine RL.val (O.not rfl) rfl ?_
            refine RL.val (O.move rfl) rfl ?_
            refine RL.bcase (t := 197) rfl (fun hc => ?_) (fun hc => ?_)
            · rw [if_pos hc] at hF
              refine RL.gskip rfl rfl rfl rfl ?_
              refine RL.gskip rfl rfl rfl rfl ?_
              refine RL.gskip rfl rfl rfl rfl ?_
              refine RL.gskip rfl rfl rfl rfl ?_
              refine RL.val (O.pickt rfl rfl) rfl ?_
              refine RL.nil ?_
              refine KQ.then_k ?_
              exact fun a ha => ⟨A2079, c2080, css2081, Z2082, long2084, true, ha.less (less_cons rfl (less_cons rfl (less_cons rfl less_nil))), hM, hF⟩
            · rw [if_neg (ne_true hc)] at hF
              refine RL.gval rfl rfl (O.bld (cs := [.int .u8 0, .int .u32 0, .int .u16 0, .int .u8 0, .int .u8 0, .int .u8 (List.getD (List.replicate 16 0) 0 0), .int .u8 (List.getD (List.replicate 16 0) 1 0), .int .u8 (List.getD (List.replicate 16 0) 2 0), .int .u8 (List.getD (List.replicate 16 0) 3 0), .int .u8 (List.getD (List.replicate 16 0) 4 0), .int .u8 (List.getD (List.replicate 16 0) 5 0), .int .u8 (List.getD (List.replicate 16 0) 6 0), .int .u8 (List.getD (List.replicate 16 0) 7 0), .int .u8 (List.getD (List.replicate 16 0) 8 0), .int .u8 (List.getD (List.replicate 16 0) 9 0), .int .u8 (List.getD (List.replicate 16 0) 10 0), .int .u8 (List.getD (List.replicate 16 0) 11 0), .int .u8 (List.getD (List.replicate 16 0) 12 0), .int .u8 (List.getD (List.replicate 16 0) 13 0), .int .u8 (List.getD (List.replicate 16 0) 14 0), .int .u8 (List.getD (List.replicate 16 0) 15 0), .int .u8 (List.getD (List.replicate 16 0) 0 0), .int .u8 (List.getD (List.replicate 16 0) 1 0), .int .u8 (List.getD (List.replicate 16 0) 2 0), .int .u8 (List.getD (List.replicate 16 0) 3 0), .int .u8 (List.getD (List.replicate 16 0) 4 0), .int .u8 (List.getD (List.replicate 16 0) 5 0), .int .u8 (List.getD (List.replicate 16 0) 6 0), .int .u8 (List.getD (List.replicate 16 0) 7 0), .int .u8 (List.getD (List.replicate 16 0) 8 0), .int .u8 (List.getD (List.replicate 16 0) 9 0), .int .u8 (List.getD (List.replicate 16 0) 10 0), .int .u8 (List.getD (List.replicate 16 0) 11 0), .int .u8 (List.getD (List.replicate 16 0) 12 0), .int .u8 (List.getD (List.replicate 16 0) 13 0), .int .u8 (List.getD (List.replicate 16 0) 14 0), .int .u8 (List.getD (List.replicate 16 0) 15 0)]) bt52 rfl (by kernel_rfl)) rfl ?_
              refine RL.gval rfl rfl (O.loadN (cs := [.slice A2079 (long2084).length c2080, .int .u8 6]) ag24 rfl (Cs.addsN [] ((hM.bx (i := 2) rfl)) rfl)) rfl ?_
              refine obindE hF fun y2093 hx2094 hF => ?_
              refine RL.gcall rfl rfl Try.func6 bd6 rfl rfl (c_law06_IpsixBack _ (T_ipsix_Header.mk 0 0 0 0 0 (List.replicate 16 0) (List.replicate 16 0)) (T_ipsix_Chain.mk long2084 6) _ _ (hM.rdD (i := 0) (j := 1) uo_ipsix_Ext rfl rfl) none 0 [] Rd.nilr 60 none 0 [] Rd.nilr _ hx2094) fun v w2095 hv => ?_
              obtain ⟨rfl, hN2096⟩ := hv
              replace hM := hM.call0 hN2096
              refine RL.gval rfl rfl (O.not rfl) rfl ?_
              refine RL.val (O.pickf rfl rfl) rfl ?_
              refine RL.nil ?_
              refine KQ.then_k ?_
              exact fun a ha => ⟨A2079, c2080, css2081, Z2082, long2084, (!y2093), ha.less (less_cons rfl (less_cons rfl (less_cons rfl less_nil))), hM, hF⟩
          · rintro a w2106 ⟨A2099, c2100, css2101, Z2102, long2104, t2105, ha, hM, hF⟩
            refine KC.app ha ?_
            clear ha
            unfold F_law06_IpsixKnown_j8 at hF
            refine KC.cond rfl (fun hc => ?_) (fun hc => ?_)
            · rw [if_pos hc] at hF
              refine KC.seq ?_
              refine KC.region ?_
              refine RL.val (O.assign rfl) rfl ?_
              refine RL.nil ?_
              refine KQ.then_n ?_
              refine KC.ret ?_
              refine KQ.then_r ?_
              refine KQ.blk_r ?_
              refine KQ.then_r ?_
              refine KQ.then_r ?_
              refine KQ.blk_r ?_
              refine KQ.then_r ?_
              obtain rfl := Option.some.inj hF
              replace hM := hM.pick [] rfl (by decide)
              refine KQ.rets Try.results7 (RVs.cons (RV.tm rfl) RVs.nil) ?_
              exact ⟨_, rfl, rfl, hM⟩
            · rw [if_neg (ne_true hc)] at hF
              refine KC.skip ?_
              refine KQ.then_n ?_
              replace hM := hM.drewN 1
              refine KC.draw [] [5, 7] [2, 4, 5, 7] [0, 6] (.ofList [0, 1, 2, 3, 4, 5, 6, 7]) moP (by kernel_rfl) ?_
              refine RD.p rfl rfl rfl rfl (fun w' => O.fldA fl24_0 (by decide) rfl) ?_
              refine RD.q rfl rfl rfl rfl (fun w' hf => O.load sc22 rfl (Cs.adds [0] ((hM.bx (i := 2) rfl).fut hf) rfl)) ?_
              refine cut_someE hF fun hq2109 hF => ?_
              refine RD.meff rfl rfl (E.mks (enc := (eI .u8)) (zr := 0) hM sl31 ze5 rfl rfl (fun _ => rfl) rfl rfl rfl (of_decide_eq_true hq2109)) rfl fun v w2108 hv => ?_
              clear hM
              obtain ⟨A2107, rfl, hM, hf⟩ := hv
              refine ⟨fun _ => hf, ?_⟩
              refine RD.q rfl rfl rfl rfl (fun w' hf => O.bld (cs := [.int .u8 60, .slice A2107 ((List.replicate (Int.toNat 6) (0 : Int))).length (Int.toNat 6)]) bt63 rfl (by kernel_rfl)) ?_
              refine RD.meff rfl rfl (E.bslD (css := ([[.int .u8 60, .slice A2107 ((List.replicate (Int.toNat 6) (0 : Int))).length (Int.toNat 6)]] : List (List Value))) hM sl22 ze63 rfl rfl rfl rfl rfl (by kernel_rfl) rfl) rfl fun v w2111 hv => ?_
              clear hM
              obtain ⟨A2112, rfl, hM, hf⟩ := hv
              refine ⟨fun _ => hf, ?_⟩
              have hp2116 := (hM.pick [3] rfl (by decide)).sep
              obtain ⟨Z2113, hM⟩ := hM.glue [3] [0, 1, 2, 4] rfl rfl (by decide) rfl (Els RO_ipsix_Ext 2 [(T_ipsix_Ext.mk 60 (List.replicate (Int.toNat 6) (0 : Int)))] ([[.int .u8 60, .slice A2107 ((List.replicate (Int.toNat 6) (0 : Int))).length (Int.toNat 6)]] : List (List Value))) (fun Z w1 ho hz => Els.lit (El3.cons rfl ⟨A2107, (Int.toNat 6), rfl, rfl⟩ El3.nil) rfl ho hz hp2116)
              refine cut_someE hF fun hq2120 hF => ?_
              refine RD.meff rfl rfl (E.appD (xs := long2104) (ys := [(T_ipsix_Ext.mk 60 (List.replicate (Int.toNat 6) (0 : Int)))]) (css := css2101) (cs2 := ([[.int .u8 60, .slice A2107 ((List.replicate (Int.toNat 6) (0 : Int))).length (Int.toNat 6)]] : List (List Value))) (j := 0) hM rfl sl22 ze63 rfl rfl rfl rfl rfl (hM.rd (i := 3) rfl) (One.all rfl) (of_decide_eq_true hq2120)) rfl fun v w2119 hv => ?_
              clear hM
              obtain ⟨A2117, c2118, rfl, hM, hf⟩ := hv
              refine ⟨fun h => (by cases h), ?_⟩
              have hp2122 := hM.sep
              obtain ⟨Z2121, hM⟩ := hM.glue [1, 4] [0, 2] rfl rfl (by decide) rfl (Els RO_ipsix_Ext 2 (long2104 ++ [(T_ipsix_Ext.mk 60 (List.replicate (Int.toNat 6) (0 : Int)))]) (css2101 ++ ([[.int .u8 60, .slice A2107 ((List.replicate (Int.toNat 6) (0 : Int))).length (Int.toNat 6)]] : List (List Value)))) (fun Z w1 ho hz => Els.app (Ob.res_φ (ho 0 _ rfl)) (Ob.res_φ (ho 1 _ rfl)) (fun g hg => hz 0 _ g rfl (Ob.has_res.2 hg)) (fun g hg => hz 1 _ g rfl (Ob.has_res.2 hg)) (fun g h1 h2 => absurd (hp2122 1 4 _ _ g rfl rfl (Ob.has_res.2 h1) (Ob.has_res.2 h2)) (by decide)))
              refine RD.p rfl rfl rfl rfl (fun w' => O.fldA fl24_0 (by decide) rfl) ?_
              refine RD.meffs rfl rfl rfl (E.stB (j := 1) (off := 0) (vs := [.slice A2117 ((long2104 ++ [(T_ipsix_Ext.mk 60 (List.replicate (Int.toNat 6) (0 : Int)))])).length c2118]) (cs' := [.slice A2117 ((long2104 ++ [(T_ipsix_Ext.mk 60 (List.replicate (Int.toNat 6) (0 : Int)))])).length c2118, .int .u8 6]) hM rfl sz22 rfl (adds_eq [0] rfl) rfl rfl (One.all rfl) rfl rfl) fun w2125 hM1 => ?_
              clear hM
              have hM := hM1
              clear hM1
              refine RD.nil ?_
              refine KQ.blk_n ?_
              refine KQ.then_n ?_
              refine KC.region ?_
              refine RL.val (O.move rfl) rfl ?_
              refine RL.val (O.add rfl rfl) rfl ?_
              refine RL.val (O.assign rfl) rfl ?_
              refine RL.nil ?_
              refine KQ.then_k ?_
              replace hM := hM.pick [0, 2, 1] rfl (by decide)
              exact fun a ha => ⟨k2088, Nat.lt_succ_self k2088, A2117, c2118, (css2101 ++ ([[.int .u8 60, .slice A2107 ((List.replicate (Int.toNat 6) (0 : Int))).length (Int.toNat 6)]] : List (List Value))), Z2121, (long2104 ++ [(T_ipsix_Ext.mk 60 (List.replicate (Int.toNat 6) (0 : Int)))]), (IntKind.i64.wrap (i2085 + 1)), ha.less (less_cons rfl (less_cons rfl less_nil)), hM, hF⟩
        · rw [if_neg (ne_true hc)] at hF
          refine KC.exit ?_
          refine KQ.then_x ?_
          refine KQ.then_x ?_
          refine KQ.blk_x ?_
          refine KQ.then_n ?_
          refine KC.seq ?_
          refine KC.region ?_
          refine cut_someE hF fun hq2128 hF => ?_
          refine RL.eff (E.mks (enc := (eI .u8)) (zr := 0) hM sl31 ze5 rfl rfl (fun _ => rfl) rfl rfl rfl (of_decide_eq_true hq2128)) rfl fun v w2127 hv => ?_
          clear hM
          obtain ⟨A2126, rfl, hM, hf⟩ := hv
          refine RL.val (O.assign rfl) rfl ?_
          refine RL.nil ?_
          refine KQ.then_n ?_
          refine KC.seq ?_
          refine KC.seq ?_
          refine KC.region ?_
          refine RL.val (O.assign rfl) rfl ?_
          refine RL.nil ?_
          refine KQ.then_n ?_
          refine KC.block ?_
          refine KC.loop (fun k2168 a w2166 => ∃ (A2155 : Option Addr) (c2156 : Nat) (css2157 : List (List Value)) (Z2158 : List Nat) (A2162 : Option Addr) (c2163 : Nat) (long2160 : List T_ipsix_Ext) (many2164 : List Int) (i2165 : Int), Kn 266 [(11, .pointer (some ⟨g1994, 0, none⟩)), (13, .slice A2162 (many2164).length c2163), (14, .int .i64 i2165)] a ∧ Mem w [] w2166 [.row A2155 c2156 63 2 (long2160).length (css2157).flatten, .res Z2158 (Els RO_ipsix_Ext 2 long2160 css2157 Z2158), .box g1994 24 [.slice A2155 (long2160).length c2156, .int .u8 6], .row A2162 c2163 5 1 (many2164).length ((many2164).flatMap (eI .u8))] ∧ F_law06_IpsixKnown_L5 k2168 long2160 many2164 i2165 = some r) ?_ ?_
          · exact fun a ha => ⟨fuel0, A2079, c2080, css2081, Z2082, A2126, (Int.toNat 136), long2084, (List.replicate (Int.toNat 136) (0 : Int)), 0, ha.less (less_cons rfl (less_cons rfl (less_cons rfl less_nil))), hM, hF⟩
          · rintro k2168 a w2166 ⟨A2155, c2156, css2157, Z2158, A2162, c2163, long2160, many2164, i2165, ha, hM, hF⟩
            refine KC.app ha ?_
            clear ha
            cases k2168 with
            | zero => exact (none_some hF).elim
            | succ k2168 =>
            have hF : F_law06_IpsixKnown_l5 (F_law06_IpsixKnown_L5 k2168) long2160 many2164 i2165 = some r := hF
            unfold F_law06_IpsixKnown_l5 at hF
            refine KC.seq ?_
            refine KC.seq ?_
            refine KC.region ?_
            refine RL.val (O.move rfl) rfl ?_
            refine RL.val (O.lss rfl rfl) rfl ?_
            refine RL.nil ?_
            refine KQ.then_n ?_
            refine KC.cond rfl (fun hc => ?_) (fun hc => ?_)
            · rw [if_pos hc] at hF
              refine KC.skip ?_
              refine KQ.then_n ?_
              refine KC.seq ?_
              refine KC.block ?_
              refine KC.region ?_
              refine RL.val (O.move rfl) rfl ?_
              refine RL.val (O.move rfl) rfl ?_
              refine obindE hF fun xv2171 hx2170 hF => ?_
              have hA2169 := Rd.atN (f := (eI .u8)) (s := 1) (fun _ => rfl) (by decide) (hM.rd (i := 3) rfl) hx2170
              refine RL.val (O.idxA sl31 (hA2169) rfl rfl) rfl ?_
              refine RL.effs (E.stR (enc := (eI .u8)) (j := 3) (off := 0) (vs := [.int .u8 60]) (x' := 60) hM rfl (fun _ => rfl) hx2170 sz5 rfl (addsR_eq [] rfl) rfl rfl (One.all rfl) rfl rfl) fun w2172 hM1 => ?_
              clear hM
              obtain ⟨hM, hn2173⟩ := hM1
              refine RL.reslot (t := 13) rfl hn2173 ?_
              refine RL.reslot (t := 215) rfl hn2173 ?_
              refine RL.nil ?_
              refine KQ.blk_n ?_
              refine KQ.then_n ?_
              refine KC.region ?_
              refine RL.val (O.move rfl) rfl ?_
              refine RL.val (O.add rfl rfl) rfl ?_
              refine RL.val (O.assign rfl) rfl ?_
              refine RL.nil ?_
              refine KQ.then_k ?_
              exact fun a ha => ⟨k2168, Nat.lt_succ_self k2168, A2155, c2156, css2157, Z2158, A2162, c2163, long2160, (many2164.set (i2165 : Int).toNat 60), (IntKind.i64.wrap (i2165 + 8)), ha.less (less_cons rfl (less_cons rfl (less_cons rfl less_nil))), hM, hF⟩
            · rw [if_neg (ne_true hc)] at hF
              refine KC.exit ?_
              refine KQ.then_x ?_
              refine KQ.then_x ?_
              refine KQ.blk_x ?_
              refine KQ.then_n ?_
              refine KC.seq ?_
              refine KC.region ?_
              refine RL.val (O.bldA (cs := [.int .u8 (List.getD [1, 0, 0, 0, 0, 0, 0, 0, 0, 0, 0, 0, 0, 0, 0, 0] 0 0), .int .u8 (List.getD [1, 0, 0, 0, 0, 0, 0, 0, 0, 0, 0, 0, 0, 0, 0, 0] 1 0), .int .u8 (List.getD [1, 0, 0, 0, 0, 0, 0, 0, 0, 0, 0, 0, 0, 0, 0, 0] 2 0), .int .u8 (List.getD [1, 0, 0, 0, 0, 0, 0, 0, 0, 0, 0, 0, 0, 0, 0, 0] 3 0), .int .u8 (List.getD [1, 0, 0, 0, 0, 0, 0, 0, 0, 0, 0, 0, 0, 0, 0, 0] 4 0), .int .u8 (List.getD [1, 0, 0, 0, 0, 0, 0, 0, 0, 0, 0, 0, 0, 0, 0, 0] 5 0), .int .u8 (List.getD [1, 0, 0, 0, 0, 0, 0, 0, 0, 0, 0, 0, 0, 0, 0, 0] 6 0), .int .u8 (List.getD [1, 0, 0, 0, 0, 0, 0, 0, 0, 0, 0, 0, 0, 0, 0, 0] 7 0), .int .u8 (List.getD [1, 0, 0, 0, 0, 0, 0, 0, 0, 0, 0, 0, 0, 0, 0, 0] 8 0), .int .u8 (List.getD [1, 0, 0, 0, 0, 0, 0, 0, 0, 0, 0, 0, 0, 0, 0, 0] 9 0), .int .u8 (List.getD [1, 0, 0, 0, 0, 0, 0, 0, 0, 0, 0, 0, 0, 0, 0, 0] 10 0), .int .u8 (List.getD [1, 0, 0, 0, 0, 0, 0, 0, 0, 0, 0, 0, 0, 0, 0, 0] 11 0), .int .u8 (List.getD [1, 0, 0, 0, 0, 0, 0, 0, 0, 0, 0, 0, 0, 0, 0, 0] 12 0), .int .u8 (List.getD [1, 0, 0, 0, 0, 0, 0, 0, 0, 0, 0, 0, 0, 0, 0, 0] 13 0), .int .u8 (List.getD [1, 0, 0, 0, 0, 0, 0, 0, 0, 0, 0, 0, 0, 0, 0, 0] 14 0), .int .u8 (List.getD [1, 0, 0, 0, 0, 0, 0, 0, 0, 0, 0, 0, 0, 0, 0, 0] 15 0)]) Try.underlying50 sz5 ze50 rfl (by kernel_rfl)) rfl ?_
              refine RL.val (O.bldA (cs := [.int .u8 (List.getD [0, 0, 0, 0, 0, 0, 0, 0, 0, 0, 0, 0, 0, 0, 0, 2] 0 0), .int .u8 (List.getD [0, 0, 0, 0, 0, 0, 0, 0, 0, 0, 0, 0, 0, 0, 0, 2] 1 0), .int .u8 (List.getD [0, 0, 0, 0, 0, 0, 0, 0, 0, 0, 0, 0, 0, 0, 0, 2] 2 0), .int .u8 (List.getD [0, 0, 0, 0, 0, 0, 0, 0, 0, 0, 0, 0, 0, 0, 0, 2] 3 0), .int .u8 (List.getD [0, 0, 0, 0, 0, 0, 0, 0, 0, 0, 0, 0, 0, 0, 0, 2] 4 0), .int .u8 (List.getD [0, 0, 0, 0, 0, 0, 0, 0, 0, 0, 0, 0, 0, 0, 0, 2] 5 0), .int .u8 (List.getD [0, 0, 0, 0, 0, 0, 0, 0, 0, 0, 0, 0, 0, 0, 0, 2] 6 0), .int .u8 (List.getD [0, 0, 0, 0, 0, 0, 0, 0, 0, 0, 0, 0, 0, 0, 0, 2] 7 0), .int .u8 (List.getD [0, 0, 0, 0, 0, 0, 0, 0, 0, 0, 0, 0, 0, 0, 0, 2] 8 0), .int .u8 (List.getD [0, 0, 0, 0, 0, 0, 0, 0, 0, 0, 0, 0, 0, 0, 0, 2] 9 0), .int .u8 (List.getD [0, 0, 0, 0, 0, 0, 0, 0, 0, 0, 0, 0, 0, 0, 0, 2] 10 0), .int .u8 (List.getD [0, 0, 0, 0, 0, 0, 0, 0, 0, 0, 0, 0, 0, 0, 0, 2] 11 0), .int .u8 (List.getD [0, 0, 0, 0, 0, 0, 0, 0, 0, 0, 0, 0, 0, 0, 0, 2] 12 0), .int .u8 (List.getD [0, 0, 0, 0, 0, 0, 0, 0, 0, 0, 0, 0, 0, 0, 0, 2] 13 0), .int .u8 (List.getD [0, 0, 0, 0, 0, 0, 0, 0, 0, 0, 0, 0, 0, 0, 0, 2] 14 0), .int .u8 (List.getD [0, 0, 0, 0, 0, 0, 0, 0, 0, 0, 0, 0, 0, 0, 0, 2] 15 0)]) Try.underlying50 sz5 ze50 rfl (by kernel_rfl)) rfl ?_
              refine RL.val (O.bld (cs := [.int .u8 255, .int .u32 1048575, .int .u16 7, .int .u8 6, .int .u8 9, .int .u8 (List.getD [1, 0, 0, 0, 0, 0, 0, 0, 0, 0, 0, 0, 0, 0, 0, 0] 0 0), .int .u8 (List.getD [1, 0, 0, 0, 0, 0, 0, 0, 0, 0, 0, 0, 0, 0, 0, 0] 1 0), .int .u8 (List.getD [1, 0, 0, 0, 0, 0, 0, 0, 0, 0, 0, 0, 0, 0, 0, 0] 2 0), .int .u8 (List.getD [1, 0, 0, 0, 0, 0, 0, 0, 0, 0, 0, 0, 0, 0, 0, 0] 3 0), .int .u8 (List.getD [1, 0, 0, 0, 0, 0, 0, 0, 0, 0, 0, 0, 0, 0, 0, 0] 4 0), .int .u8 (List.getD [1, 0, 0, 0, 0, 0, 0, 0, 0, 0, 0, 0, 0, 0, 0, 0] 5 0), .int .u8 (List.getD [1, 0, 0, 0, 0, 0, 0, 0, 0, 0, 0, 0, 0, 0, 0, 0] 6 0), .int .u8 (List.getD [1, 0, 0, 0, 0, 0, 0, 0, 0, 0, 0, 0, 0, 0, 0, 0] 7 0), .int .u8 (List.getD [1, 0, 0, 0, 0, 0, 0, 0, 0, 0, 0, 0, 0, 0, 0, 0] 8 0), .int .u8 (List.getD [1, 0, 0, 0, 0, 0, 0, 0, 0, 0, 0, 0, 0, 0, 0, 0] 9 0), .int .u8 (List.getD [1, 0, 0, 0, 0, 0, 0, 0, 0, 0, 0, 0, 0, 0, 0, 0] 10 0), .int .u8 (List.getD [1, 0, 0, 0, 0, 0, 0, 0, 0, 0, 0, 0, 0, 0, 0, 0] 11 0), .int .u8 (List.getD [1, 0, 0, 0, 0, 0, 0, 0, 0, 0, 0, 0, 0, 0, 0, 0] 12 0), .int .u8 (List.getD [1, 0, 0, 0, 0, 0, 0, 0, 0, 0, 0, 0, 0, 0, 0, 0] 13 0), .int .u8 (List.getD [1, 0, 0, 0, 0, 0, 0, 0, 0, 0, 0, 0, 0, 0, 0, 0] 14 0), .int .u8 (List.getD [1, 0, 0, 0, 0, 0, 0, 0, 0, 0, 0, 0, 0, 0, 0, 0] 15 0), .int .u8 (List.getD [0, 0, 0, 0, 0, 0, 0, 0, 0, 0, 0, 0, 0, 0, 0, 2] 0 0), .int .u8 (List.getD [0, 0, 0, 0, 0, 0, 0, 0, 0, 0, 0, 0, 0, 0, 0, 2] 1 0), .int .u8 (List.getD [0, 0, 0, 0, 0, 0, 0, 0, 0, 0, 0, 0, 0, 0, 0, 2] 2 0), .int .u8 (List.getD [0, 0, 0, 0, 0, 0, 0, 0, 0, 0, 0, 0, 0, 0, 0, 2] 3 0), .int .u8 (List.getD [0, 0, 0, 0, 0, 0, 0, 0, 0, 0, 0, 0, 0, 0, 0, 2] 4 0), .int .u8 (List.getD [0, 0, 0, 0, 0, 0, 0, 0, 0, 0, 0, 0, 0, 0, 0, 2] 5 0), .int .u8 (List.getD [0, 0, 0, 0, 0, 0, 0, 0, 0, 0, 0, 0, 0, 0, 0, 2] 6 0), .int .u8 (List.getD [0, 0, 0, 0, 0, 0, 0, 0, 0, 0, 0, 0, 0, 0, 0, 2] 7 0), .int .u8 (List.getD [0, 0, 0, 0, 0, 0, 0, 0, 0, 0, 0, 0, 0, 0, 0, 2] 8 0), .int .u8 (List.getD [0, 0, 0, 0, 0, 0, 0, 0, 0, 0, 0, 0, 0, 0, 0, 2] 9 0), .int .u8 (List.getD [0, 0, 0, 0, 0, 0, 0, 0, 0, 0, 0, 0, 0, 0, 0, 2] 10 0), .int .u8 (List.getD [0, 0, 0, 0, 0, 0, 0, 0, 0, 0, 0, 0, 0, 0, 0, 2] 11 0), .int .u8 (List.getD [0, 0, 0, 0, 0, 0, 0, 0, 0, 0, 0, 0, 0, 0, 0, 2] 12 0), .int .u8 (List.getD [0, 0, 0, 0, 0, 0, 0, 0, 0, 0, 0, 0, 0, 0, 0, 2] 13 0), .int .u8 (List.getD [0, 0, 0, 0, 0, 0, 0, 0, 0, 0, 0, 0, 0, 0, 0, 2] 14 0), .int .u8 (List.getD [0, 0, 0, 0, 0, 0, 0, 0, 0, 0, 0, 0, 0, 0, 0, 2] 15 0)]) bt52 rfl (by kernel_rfl)) rfl ?_
              refine RL.eff (E.alloc hM ze52) rfl fun v w2175 hv => ?_
              clear hM
              obtain ⟨g2174, rfl, hM, hf⟩ := hv
              refine RL.effs (E.stB (j := 4) (off := 0) (vs := [.int .u8 255, .int .u32 1048575, .int .u16 7, .int .u8 6, .int .u8 9, .int .u8 (List.getD [1, 0, 0, 0, 0, 0, 0, 0, 0, 0, 0, 0, 0, 0, 0, 0] 0 0), .int .u8 (List.getD [1, 0, 0, 0, 0, 0, 0, 0, 0, 0, 0, 0, 0, 0, 0, 0] 1 0), .int .u8 (List.getD [1, 0, 0, 0, 0, 0, 0, 0, 0, 0, 0, 0, 0, 0, 0, 0] 2 0), .int .u8 (List.getD [1, 0, 0, 0, 0, 0, 0, 0, 0, 0, 0, 0, 0, 0, 0, 0] 3 0), .int .u8 (List.getD [1, 0, 0, 0, 0, 0, 0, 0, 0, 0, 0, 0, 0, 0, 0, 0] 4 0), .int .u8 (List.getD [1, 0, 0, 0, 0, 0, 0, 0, 0, 0, 0, 0, 0, 0, 0, 0] 5 0), .int .u8 (List.getD [1, 0, 0, 0, 0, 0, 0, 0, 0, 0, 0, 0, 0, 0, 0, 0] 6 0), .int .u8 (List.getD [1, 0, 0, 0, 0, 0, 0, 0, 0, 0, 0, 0, 0, 0, 0, 0] 7 0), .int .u8 (List.getD [1, 0, 0, 0, 0, 0, 0, 0, 0, 0, 0, 0, 0, 0, 0, 0] 8 0), .int .u8 (List.getD [1, 0, 0, 0, 0, 0, 0, 0, 0, 0, 0, 0, 0, 0, 0, 0] 9 0), .int .u8 (List.getD [1, 0, 0, 0, 0, 0, 0, 0, 0, 0, 0, 0, 0, 0, 0, 0] 10 0), .int .u8 (List.getD [1, 0, 0, 0, 0, 0, 0, 0, 0, 0, 0, 0, 0, 0, 0, 0] 11 0), .int .u8 (List.getD [1, 0, 0, 0, 0, 0, 0, 0, 0, 0, 0, 0, 0, 0, 0, 0] 12 0), .int .u8 (List.getD [1, 0, 0, 0, 0, 0, 0, 0, 0, 0, 0, 0, 0, 0, 0, 0] 13 0), .int .u8 (List.getD [1, 0, 0, 0, 0, 0, 0, 0, 0, 0, 0, 0, 0, 0, 0, 0] 14 0), .int .u8 (List.getD [1, 0, 0, 0, 0, 0, 0, 0, 0, 0, 0, 0, 0, 0, 0, 0] 15 0), .int .u8 (List.getD [0, 0, 0, 0, 0, 0, 0, 0, 0, 0, 0, 0, 0, 0, 0, 2] 0 0), .int .u8 (List.getD [0, 0, 0, 0, 0, 0, 0, 0, 0, 0, 0, 0, 0, 0, 0, 2] 1 0), .int .u8 (List.getD [0, 0, 0, 0, 0, 0, 0, 0, 0, 0, 0, 0, 0, 0, 0, 2] 2 0), .int .u8 (List.getD [0, 0, 0, 0, 0, 0, 0, 0, 0, 0, 0, 0, 0, 0, 0, 2] 3 0), .int .u8 (List.getD [0, 0, 0, 0, 0, 0, 0, 0, 0, 0, 0, 0, 0, 0, 0, 2] 4 0), .int .u8 (List.getD [0, 0, 0, 0, 0, 0, 0, 0, 0, 0, 0, 0, 0, 0, 0, 2] 5 0), .int .u8 (List.getD [0, 0, 0, 0, 0, 0, 0, 0, 0, 0, 0, 0, 0, 0, 0, 2] 6 0), .int .u8 (List.getD [0, 0, 0, 0, 0, 0, 0, 0, 0, 0, 0, 0, 0, 0, 0, 2] 7 0), .int .u8 (List.getD [0, 0, 0, 0, 0, 0, 0, 0, 0, 0, 0, 0, 0, 0, 0, 2] 8 0), .int .u8 (List.getD [0, 0, 0, 0, 0, 0, 0, 0, 0, 0, 0, 0, 0, 0, 0, 2] 9 0), .int .u8 (List.getD [0, 0, 0, 0, 0, 0, 0, 0, 0, 0, 0, 0, 0, 0, 0, 2] 10 0), .int .u8 (List.getD [0, 0, 0, 0, 0, 0, 0, 0, 0, 0, 0, 0, 0, 0, 0, 2] 11 0), .int .u8 (List.getD [0, 0, 0, 0, 0, 0, 0, 0, 0, 0, 0, 0, 0, 0, 0, 2] 12 0), .int .u8 (List.getD [0, 0, 0, 0, 0, 0, 0, 0, 0, 0, 0, 0, 0, 0, 0, 2] 13 0), .int .u8 (List.getD [0, 0, 0, 0, 0, 0, 0, 0, 0, 0, 0, 0, 0, 0, 0, 2] 14 0), .int .u8 (List.getD [0, 0, 0, 0, 0, 0, 0, 0, 0, 0, 0, 0, 0, 0, 0, 2] 15 0)]) (cs' := [.int .u8 255, .int .u32 1048575, .int .u16 7, .int .u8 6, .int .u8 9, .int .u8 (List.getD [1, 0, 0, 0, 0, 0, 0, 0, 0, 0, 0, 0, 0, 0, 0, 0] 0 0), .int .u8 (List.getD [1, 0, 0, 0, 0, 0, 0, 0, 0, 0, 0, 0, 0, 0, 0, 0] 1 0), .int .u8 (List.getD [1, 0, 0, 0, 0, 0, 0, 0, 0, 0, 0, 0, 0, 0, 0, 0] 2 0), .int .u8 (List.getD [1, 0, 0, 0, 0, 0, 0, 0, 0, 0, 0, 0, 0, 0, 0, 0] 3 0), .int .u8 (List.getD [1, 0, 0, 0, 0, 0, 0, 0, 0, 0, 0, 0, 0, 0, 0, 0] 4 0), .int .u8 (List.getD [1, 0, 0, 0, 0, 0, 0, 0, 0, 0, 0, 0, 0, 0, 0, 0] 5 0), .int .u8 (List.getD [1, 0, 0, 0, 0, 0, 0, 0, 0, 0, 0, 0, 0, 0, 0, 0] 6 0), .int .u8 (List.getD [1, 0, 0, 0, 0, 0, 0, 0, 0, 0, 0, 0, 0, 0, 0, 0] 7 0), .int .u8 (List.getD [1, 0, 0, 0, 0, 0, 0, 0, 0, 0, 0, 0, 0, 0, 0, 0] 8 0), .int .u8 (List.getD [1, 0, 0, 0, 0, 0, 0, 0, 0, 0, 0, 0, 0, 0, 0, 0] 9 0), .int .u8 (List.getD [1, 0, 0, 0, 0, 0, 0, 0, 0, 0, 0, 0, 0, 0, 0, 0] 10 0), .int .u8 (List.getD [1, 0, 0, 0, 0, 0, 0, 0, 0, 0, 0, 0, 0, 0, 0, 0] 11 0), .int .u8 (List.getD [1, 0, 0, 0, 0, 0, 0, 0, 0, 0, 0, 0, 0, 0, 0, 0] 12 0), .int .u8 (List.getD [1, 0, 0, 0, 0, 0, 0, 0, 0, 0, 0, 0, 0, 0, 0, 0] 13 0), .int .u8 (List.getD [1, 0, 0, 0, 0, 0, 0, 0, 0, 0, 0, 0, 0, 0, 0, 0] 14 0), .int .u8 (List.getD [1, 0, 0, 0, 0, 0, 0, 0, 0, 0, 0, 0, 0, 0, 0, 0] 15 0), .int .u8 (List.getD [0, 0, 0, 0, 0, 0, 0, 0, 0, 0, 0, 0, 0, 0, 0, 2] 0 0), .int .u8 (List.getD [0, 0, 0, 0, 0, 0, 0, 0, 0, 0, 0, 0, 0, 0, 0, 2] 1 0), .int .u8 (List.getD [0, 0, 0, 0, 0, 0, 0, 0, 0, 0, 0, 0, 0, 0, 0, 2] 2 0), .int .u8 (List.getD [0, 0, 0, 0, 0, 0, 0, 0, 0, 0, 0, 0, 0, 0, 0, 2] 3 0), .int .u8 (List.getD [0, 0, 0, 0, 0, 0, 0, 0, 0, 0, 0, 0, 0, 0, 0, 2] 4 0), .int .u8 (List.getD [0, 0, 0, 0, 0, 0, 0, 0, 0, 0, 0, 0, 0, 0, 0, 2] 5 0), .int .u8 (List.getD [0, 0, 0, 0, 0, 0, 0, 0, 0, 0, 0, 0, 0, 0, 0, 2] 6 0), .int .u8 (List.getD [0, 0, 0, 0, 0, 0, 0, 0, 0, 0, 0, 0, 0, 0, 0, 2] 7 0), .int .u8 (List.getD [0, 0, 0, 0, 0, 0, 0, 0, 0, 0, 0, 0, 0, 0, 0, 2] 8 0), .int .u8 (List.getD [0, 0, 0, 0, 0, 0, 0, 0, 0, 0, 0, 0, 0, 0, 0, 2] 9 0), .int .u8 (List.getD [0, 0, 0, 0, 0, 0, 0, 0, 0, 0, 0, 0, 0, 0, 0, 2] 10 0), .int .u8 (List.getD [0, 0, 0, 0, 0, 0, 0, 0, 0, 0, 0, 0, 0, 0, 0, 2] 11 0), .int .u8 (List.getD [0, 0, 0, 0, 0, 0, 0, 0, 0, 0, 0, 0, 0, 0, 0, 2] 12 0), .int .u8 (List.getD [0, 0, 0, 0, 0, 0, 0, 0, 0, 0, 0, 0, 0, 0, 0, 2] 13 0), .int .u8 (List.getD [0, 0, 0, 0, 0, 0, 0, 0, 0, 0, 0, 0, 0, 0, 0, 2] 14 0), .int .u8 (List.getD [0, 0, 0, 0, 0, 0, 0, 0, 0, 0, 0, 0, 0, 0, 0, 2] 15 0)]) hM rfl sz52 rfl (adds_eq [] rfl) rfl rfl (One.all rfl) rfl rfl) fun w2177 hM1 => ?_
              clear hM
              have hM := hM1
              clear hM1
              refine RL.nil ?_
              refine KQ.then_n ?_
              refine KC.seq ?_
              refine KC.region ?_
              refine RL.val (O.loadN (cs := [.int .u8 255, .int .u32 1048575, .int .u16 7, .int .u8 6, .int .u8 9, .int .u8 (List.getD [1, 0, 0, 0, 0, 0, 0, 0, 0, 0, 0, 0, 0, 0, 0, 0] 0 0), .int .u8 (List.getD [1, 0, 0, 0, 0, 0, 0, 0, 0, 0, 0, 0, 0, 0, 0, 0] 1 0), .int .u8 (List.getD [1, 0, 0, 0, 0, 0, 0, 0, 0, 0, 0, 0, 0, 0, 0, 0] 2 0), .int .u8 (List.getD [1, 0, 0, 0, 0, 0, 0, 0, 0, 0, 0, 0, 0, 0, 0, 0] 3 0), .int .u8 (List.getD [1, 0, 0, 0, 0, 0, 0, 0, 0, 0, 0, 0, 0, 0, 0, 0] 4 0), .int .u8 (List.getD [1, 0, 0, 0, 0, 0, 0, 0, 0, 0, 0, 0, 0, 0, 0, 0] 5 0), .int .u8 (List.getD [1, 0, 0, 0, 0, 0, 0, 0, 0, 0, 0, 0, 0, 0, 0, 0] 6 0), .int .u8 (List.getD [1, 0, 0, 0, 0, 0, 0, 0, 0, 0, 0, 0, 0, 0, 0, 0] 7 0), .int .u8 (List.getD [1, 0, 0, 0, 0, 0, 0, 0, 0, 0, 0, 0, 0, 0, 0, 0] 8 0), .int .u8 (List.getD [1, 0, 0, 0, 0, 0, 0, 0, 0, 0, 0, 0, 0, 0, 0, 0] 9 0), .int .u8 (List.getD [1, 0, 0, 0, 0, 0, 0, 0, 0, 0, 0, 0, 0, 0, 0, 0] 10 0), .int .u8 (List.getD [1, 0, 0, 0, 0, 0, 0, 0, 0, 0, 0, 0, 0, 0, 0, 0] 11 0), .int .u8 (List.getD [1, 0, 0, 0, 0, 0, 0, 0, 0, 0, 0, 0, 0, 0, 0, 0] 12 0), .int .u8 (List.getD [1, 0, 0, 0, 0, 0, 0, 0, 0, 0, 0, 0, 0, 0, 0, 0] 13 0), .int .u8 (List.getD [1, 0, 0, 0, 0, 0, 0, 0, 0, 0, 0, 0, 0, 0, 0, 0] 14 0), .int .u8 (List.getD [1, 0, 0, 0, 0, 0, 0, 0, 0, 0, 0, 0, 0, 0, 0, 0] 15 0), .int .u8 (List.getD [0, 0, 0, 0, 0, 0, 0, 0, 0, 0, 0, 0, 0, 0, 0, 2] 0 0), .int .u8 (List.getD [0, 0, 0, 0, 0, 0, 0, 0, 0, 0, 0, 0, 0, 0, 0, 2] 1 0), .int .u8 (List.getD [0, 0, 0, 0, 0, 0, 0, 0, 0, 0, 0, 0, 0, 0, 0, 2] 2 0), .int .u8 (List.getD [0, 0, 0, 0, 0, 0, 0, 0, 0, 0, 0, 0, 0, 0, 0, 2] 3 0), .int .u8 (List.getD [0, 0, 0, 0, 0, 0, 0, 0, 0, 0, 0, 0, 0, 0, 0, 2] 4 0), .int .u8 (List.getD [0, 0, 0, 0, 0, 0, 0, 0, 0, 0, 0, 0, 0, 0, 0, 2] 5 0), .int .u8 (List.getD [0, 0, 0, 0, 0, 0, 0, 0, 0, 0, 0, 0, 0, 0, 0, 2] 6 0), .int .u8 (List.getD [0, 0, 0, 0, 0, 0, 0, 0, 0, 0, 0, 0, 0, 0, 0, 2] 7 0), .int .u8 (List.getD [0, 0, 0, 0, 0, 0, 0, 0, 0, 0, 0, 0, 0, 0, 0, 2] 8 0), .int .u8 (List.getD [0, 0, 0, 0, 0, 0, 0, 0, 0, 0, 0, 0, 0, 0, 0, 2] 9 0), .int .u8 (List.getD [0, 0, 0, 0, 0, 0, 0, 0, 0, 0, 0, 0, 0, 0, 0, 2] 10 0), .int .u8 (List.getD [0, 0, 0, 0, 0, 0, 0, 0, 0, 0, 0, 0, 0, 0, 0, 2] 11 0), .int .u8 (List.getD [0, 0, 0, 0, 0, 0, 0, 0, 0, 0, 0, 0, 0, 0, 0, 2] 12 0), .int .u8 (List.getD [0, 0, 0, 0, 0, 0, 0, 0, 0, 0, 0, 0, 0, 0, 0, 2] 13 0), .int .u8 (List.getD [0, 0, 0, 0, 0, 0, 0, 0, 0, 0, 0, 0, 0, 0, 0, 2] 14 0), .int .u8 (List.getD [0, 0, 0, 0, 0, 0, 0, 0, 0, 0, 0, 0, 0, 0, 0, 2] 15 0)]) ag52 rfl (Cs.addsN [] ((hM.bx (i := 4) rfl)) rfl)) rfl ?_
              refine obindE hF fun y2178 hx2179 hF => ?_
              refine RL.call Try.func28 bd28 rfl rfl (c_ipsix_Put _ (T_ipsix_Header.mk 255 1048575 7 6 9 ([1, 0, 0, 0, 0, 0, 0, 0, 0, 0, 0, 0, 0, 0, 0, 0]) ([0, 0, 0, 0, 0, 0, 0, 0, 0, 0, 0, 0, 0, 0, 0, 2])) _ hx2179) fun v w2180 hv => ?_
              obtain ⟨A2182, c2183, rfl, hN2181⟩ := hv
              replace hM := hM.call hN2181
              refine RL.val (O.move rfl) rfl ?_
              refine RL.val (O.ext rfl rfl) rfl ?_
              refine RL.val (O.ext rfl rfl) rfl ?_
              refine RL.val (O.assign rfl) rfl ?_
              refine RL.val (O.assign rfl) rfl ?_
              refine RL.nil ?_
              refine KQ.then_n ?_
              refine KC.seq ?_
              refine KC.seq ?_
              refine KC.region ?_
              refine RL.val (O.assign rfl) rfl ?_
              refine RL.nil ?_
              refine KQ.then_n ?_
              refine KC.block ?_
              refine KC.loop (fun k2319 a w2317 => ∃ (A2307 : Option Addr) (c2308 : Nat) (css2309 : List (List Value)) (Z2310 : List Nat) (long2312 : List T_ipsix_Ext) (i2316 : Int), Kn 266 [(11, .pointer (some ⟨g1994, 0, none⟩)), (13, .slice A2162 (many2164).length c2163), (15, .pointer (some ⟨g2174, 0, none⟩)), (16, .slice A2182 (y2178.1).length c2183), (18, .int .i64 i2316)] a ∧ Mem w [] w2317 [.row A2307 c2308 63 2 (long2312).length (css2309).flatten, .res Z2310 (Els RO_ipsix_Ext 2 long2312 css2309 Z2310), .box g1994 24 [.slice A2307 (long2312).length c2308, .int .u8 6], .row A2162 c2163 5 1 (many2164).length ((many2164).flatMap (eI .u8)), .box g2174 52 [.int .u8 255, .int .u32 1048575, .int .u16 7, .int .u8 6, .int .u8 9, .int .u8 (List.getD [1, 0, 0, 0, 0, 0, 0, 0, 0, 0, 0, 0, 0, 0, 0, 0] 0 0), .int .u8 (List.getD [1, 0, 0, 0, 0, 0, 0, 0, 0, 0, 0, 0, 0, 0, 0, 0] 1 0), .int .u8 (List.getD [1, 0, 0, 0, 0, 0, 0, 0, 0, 0, 0, 0, 0, 0, 0, 0] 2 0), .int .u8 (List.getD [1, 0, 0, 0, 0, 0, 0, 0, 0, 0, 0, 0, 0, 0, 0, 0] 3 0), .int .u8 (List.getD [1, 0, 0, 0, 0, 0, 0, 0, 0, 0, 0, 0, 0, 0, 0, 0] 4 0), .int .u8 (List.getD [1, 0, 0, 0, 0, 0, 0, 0, 0, 0, 0, 0, 0, 0, 0, 0] 5 0), .int .u8 (List.getD [1, 0, 0, 0, 0, 0, 0, 0, 0, 0, 0, 0, 0, 0, 0, 0] 6 0), .int .u8 (List.getD [1, 0, 0, 0, 0, 0, 0, 0, 0, 0, 0, 0, 0, 0, 0, 0] 7 0), .int .u8 (List.getD [1, 0, 0, 0, 0, 0, 0, 0, 0, 0, 0, 0, 0, 0, 0, 0] 8 0), .int .u8 (List.getD [1, 0, 0, 0, 0, 0, 0, 0, 0, 0, 0, 0, 0, 0, 0, 0] 9 0), .int .u8 (List.getD [1, 0, 0, 0, 0, 0, 0, 0, 0, 0, 0, 0, 0, 0, 0, 0] 10 0), .int .u8 (List.getD [1, 0, 0, 0, 0, 0, 0, 0, 0, 0, 0, 0, 0, 0, 0, 0] 11 0), .int .u8 (List.getD [1, 0, 0, 0, 0, 0, 0, 0, 0, 0, 0, 0, 0, 0, 0, 0] 12 0), .int .u8 (List.getD [1, 0, 0, 0, 0, 0, 0, 0, 0, 0, 0, 0, 0, 0, 0, 0] 13 0), .int .u8 (List.getD [1, 0, 0, 0, 0, 0, 0, 0, 0, 0, 0, 0, 0, 0, 0, 0] 14 0), .int .u8 (List.getD [1, 0, 0, 0, 0, 0, 0, 0, 0, 0, 0, 0, 0, 0, 0, 0] 15 0), .int .u8 (List.getD [0, 0, 0, 0, 0, 0, 0, 0, 0, 0, 0, 0, 0, 0, 0, 2] 0 0), .int .u8 (List.getD [0, 0, 0, 0, 0, 0, 0, 0, 0, 0, 0, 0, 0, 0, 0, 2] 1 0), .int .u8 (List.getD [0, 0, 0, 0, 0, 0, 0, 0, 0, 0, 0, 0, 0, 0, 0, 2] 2 0), .int .u8 (List.getD [0, 0, 0, 0, 0, 0, 0, 0, 0, 0, 0, 0, 0, 0, 0, 2] 3 0), .int .u8 (List.getD [0, 0, 0, 0, 0, 0, 0, 0, 0, 0, 0, 0, 0, 0, 0, 2] 4 0), .int .u8 (List.getD [0, 0, 0, 0, 0, 0, 0, 0, 0, 0, 0, 0, 0, 0, 0, 2] 5 0), .int .u8 (List.getD [0, 0, 0, 0, 0, 0, 0, 0, 0, 0, 0, 0, 0, 0, 0, 2] 6 0), .int .u8 (List.getD [0, 0, 0, 0, 0, 0, 0, 0, 0, 0, 0, 0, 0, 0, 0, 2] 7 0), .int .u8 (List.getD [0, 0, 0, 0, 0, 0, 0, 0, 0, 0, 0, 0, 0, 0, 0, 2] 8 0), .int .u8 (List.getD [0, 0, 0, 0, 0, 0, 0, 0, 0, 0, 0, 0, 0, 0, 0, 2] 9 0), .int .u8 (List.getD [0, 0, 0, 0, 0, 0, 0, 0, 0, 0, 0, 0, 0, 0, 0, 2] 10 0), .int .u8 (List.getD [0, 0, 0, 0, 0, 0, 0, 0, 0, 0, 0, 0, 0, 0, 0, 2] 11 0), .int .u8 (List.getD [0, 0, 0, 0, 0, 0, 0, 0, 0, 0, 0, 0, 0, 0, 0, 2] 12 0), .int .u8 (List.getD [0, 0, 0, 0, 0, 0, 0, 0, 0, 0, 0, 0, 0, 0, 0, 2] 13 0), .int .u8 (List.getD [0, 0, 0, 0, 0, 0, 0, 0, 0, 0, 0, 0, 0, 0, 0, 2] 14 0), .int .u8 (List.getD [0, 0, 0, 0, 0, 0, 0, 0, 0, 0, 0, 0, 0, 0, 0, 2] 15 0)], .row A2182 c2183 5 1 (y2178.1).length ((y2178.1).flatMap (eI .u8))] ∧ F_law06_IpsixKnown_L6 many2164 y2178 k2319 long2312 i2316 = some r) ?_ ?_
              · exact fun a ha => ⟨fuel0, A2155, c2156, css2157, Z2158, long2160, 0, ha.less (less_cons rfl (less_cons rfl (less_cons rfl (less_cons rfl (less_cons rfl less_nil))))), hM, hF⟩
              · rintro k2319 a w2317 ⟨A2307, c2308, css2309, Z2310, long2312, i2316, ha, hM, hF⟩
                refine KC.app ha ?_
                clear ha
                cases k2319 with
                | zero => exact (none_some hF).elim
                | succ k2319 =>
                have hF : F_law06_IpsixKnown_l6 (F_law06_IpsixKnown_L6 many2164 y2178 k2319) many2164 y2178 long2312 i2316 = some r := hF
                unfold F_law06_IpsixKnown_l6 at hF
                refine KC.seq ?_
                refine KC.seq ?_
                refine KC.region ?_
                refine RL.val (O.move rfl) rfl ?_
                refine RL.val (O.move rfl) rfl ?_
                refine RL.val (O.len sl31 rfl) rfl ?_
                refine RL.val (O.leq rfl rfl) rfl ?_
                refine RL.nil ?_
                refine KQ.then_n ?_
                refine KC.cond rfl (fun hc => ?_) (fun hc => ?_)
                · rw [if_pos hc] at hF
                  refine KC.skip ?_
                  refine KQ.then_n ?_
                  refine KC.seq ?_
                  refine KC.block ?_
                  refine KC.cut (fun a w2373 => ∃ (A2363 : Option Addr) (c2364 : Nat) (css2365 : List (List Value)) (Z2366 : List Nat) (long2368 : List T_ipsix_Ext) (t2372 : Bool), Kn 266 [(11, .pointer (some ⟨g1994, 0, none⟩)), (13, .slice A2162 (many2164).length c2163), (15, .pointer (some ⟨g2174, 0, none⟩)), (16, .slice A2182 (y2178.1).length c2183), (18, .int .i64 i2316), (250, .bool t2372)] a ∧ Mem w [] w2373 [.row A2363 c2364 63 2 (long2368).length (css2365).flatten, .res Z2366 (Els RO_ipsix_Ext 2 long2368 css2365 Z2366), .box g1994 24 [.slice A2363 (long2368).length c2364, .int .u8 6], .row A2162 c2163 5 1 (many2164).length ((many2164).flatMap (eI .u8)), .box g2174 52 [.int .u8 255, .int .u32 1048575, .int .u16 7, .int .u8 6, .int .u8 9, .int .u8 (List.getD [1, 0, 0, 0, 0, 0, 0, 0, 0, 0, 0, 0, 0, 0, 0, 0] 0 0), .int .u8 (List.getD [1, 0, 0, 0, 0, 0, 0, 0, 0, 0, 0, 0, 0, 0, 0, 0] 1 0), .int .u8 (List.getD [1, 0, 0, 0, 0, 0, 0, 0, 0, 0, 0, 0, 0, 0, 0, 0] 2 0), .int .u8 (List.getD [1, 0, 0, 0, 0, 0, 0, 0, 0, 0, 0, 0, 0, 0, 0, 0] 3 0), .int .u8 (List.getD [1, 0, 0, 0, 0, 0, 0, 0, 0, 0, 0, 0, 0, 0, 0, 0] 4 0), .int .u8 (List.getD [1, 0, 0, 0, 0, 0, 0, 0, 0, 0, 0, 0, 0, 0, 0, 0] 5 0), .int .u8 (List.getD [1, 0, 0, 0, 0, 0, 0, 0, 0, 0, 0, 0, 0, 0, 0, 0] 6 0), .int .u8 (List.getD [1, 0, 0, 0, 0, 0, 0, 0, 0, 0, 0, 0, 0, 0, 0, 0] 7 0), .int .u8 (List.getD [1, 0, 0, 0, 0, 0, 0, 0, 0, 0, 0, 0, 0, 0, 0, 0] 8 0), .int .u8 (List.getD [1, 0, 0, 0, 0, 0, 0, 0, 0, 0, 0, 0, 0, 0, 0, 0] 9 0), .int .u8 (List.getD [1, 0, 0, 0, 0, 0, 0, 0, 0, 0, 0, 0, 0, 0, 0, 0] 10 0), .int .u8 (List.getD [1, 0, 0, 0, 0, 0, 0, 0, 0, 0, 0, 0, 0, 0, 0, 0] 11 0), .int .u8 (List.getD [1, 0, 0, 0, 0, 0, 0, 0, 0, 0, 0, 0, 0, 0, 0, 0] 12 0), .int .u8 (List.getD [1, 0, 0, 0, 0, 0, 0, 0, 0, 0, 0, 0, 0, 0, 0, 0] 13 0), .int .u8 (List.getD [1, 0, 0, 0, 0, 0, 0, 0, 0, 0, 0, 0, 0, 0, 0, 0] 14 0), .int .u8 (List.getD [1, 0, 0, 0, 0, 0, 0, 0, 0, 0, 0, 0, 0, 0, 0, 0] 15 0), .int .u8 (List.getD [0, 0, 0, 0, 0, 0, 0, 0, 0, 0, 0, 0, 0, 0, 0, 2] 0 0), .int .u8 (List.getD [0, 0, 0, 0, 0, 0, 0, 0, 0, 0, 0, 0, 0, 0, 0, 2] 1 0), .int .u8 (List.getD [0, 0, 0, 0, 0, 0, 0, 0, 0, 0, 0, 0, 0, 0, 0, 2] 2 0), .int .u8 (List.getD [0, 0, 0, 0, 0, 0, 0, 0, 0, 0, 0, 0, 0, 0, 0, 2] 3 0), .int .u8 (List.getD [0, 0, 0, 0, 0, 0, 0, 0, 0, 0, 0, 0, 0, 0, 0, 2] 4 0), .int .u8 (List.getD [0, 0, 0, 0, 0, 0, 0, 0, 0, 0, 0, 0, 0, 0, 0, 2] 5 0), .int .u8 (List.getD [0, 0, 0, 0, 0, 0, 0, 0, 0, 0, 0, 0, 0, 0, 0, 2] 6 0), .int .u8 (List.getD [0, 0, 0, 0, 0, 0, 0, 0, 0, 0, 0, 0, 0, 0, 0, 2] 7 0), .int .u8 (List.getD [0, 0, 0, 0, 0, 0, 0, 0, 0, 0, 0, 0, 0, 0, 0, 2] 8 0), .int .u8 (List.getD [0, 0, 0, 0, 0, 0, 0, 0, 0, 0, 0, 0, 0, 0, 0, 2] 9 0), .int .u8 (List.getD [0, 0, 0, 0, 0, 0, 0, 0, 0, 0, 0, 0, 0, 0, 0, 2] 10 0), .int .u8 (List.getD [0, 0, 0, 0, 0, 0, 0, 0, 0, 0, 0, 0, 0, 0, 0, 2] 11 0), .int .u8 (List.getD [0, 0, 0, 0, 0, 0, 0, 0, 0, 0, 0, 0, 0, 0, 0, 2] 12 0), .int .u8 (List.getD [0, 0, 0, 0, 0, 0, 0, 0, 0, 0, 0, 0, 0, 0, 0, 2] 13 0), .int .u8 (List.getD [0, 0, 0, 0, 0, 0, 0, 0, 0, 0, 0, 0, 0, 0, 0, 2] 14 0), .int .u8 (List.getD [0, 0, 0, 0, 0, 0, 0, 0, 0, 0, 0, 0, 0, 0, 0, 2] 15 0)], .row A2182 c2183 5 1 (y2178.1).length ((y2178.1).flatMap (eI .u8))] ∧ F_law06_IpsixKnown_j9 i2316 (F_law06_IpsixKnown_L6 many2164 y2178 k2319) long2368 t2372 = some r) ?_ ?_
                  · replace hM := hM.drewN 1
                    refine KC.draw [] [15] [4, 10, 15, 16] [1, 2, 3, 5, 6, 7, 8, 9, 11, 12, 13, 14, 17, 18] (.ofList [0, 1, 2, 3, 4, 5, 6, 7, 8, 9, 11, 12, 13, 14, 10, 15, 16, 17, 18]) moP (by kernel_rfl) ?_
                    refine RD.q rfl rfl rfl rfl (fun w' hf => O.loadN (cs := [.int .u8 255, .int .u32 1048575, .int .u16 7, .int .u8 6, .int .u8 9, .int .u8 (List.getD [1, 0, 0, 0, 0, 0, 0, 0, 0, 0, 0, 0, 0, 0, 0, 0] 0 0), .int .u8 (List.getD [1, 0, 0, 0, 0, 0, 0, 0, 0, 0, 0, 0, 0, 0, 0, 0] 1 0), .int .u8 (List.getD [1, 0, 0, 0, 0, 0, 0, 0, 0, 0, 0, 0, 0, 0, 0, 0] 2 0), .int .u8 (List.getD [1, 0, 0, 0, 0, 0, 0, 0, 0, 0, 0, 0, 0, 0, 0, 0] 3 0), .int .u8 (List.getD [1, 0, 0, 0, 0, 0, 0, 0, 0, 0, 0, 0, 0, 0, 0, 0] 4 0), .int .u8 (List.getD [1, 0, 0, 0, 0, 0, 0, 0, 0, 0, 0, 0, 0, 0, 0, 0] 5 0), .int .u8 (List.getD [1, 0, 0, 0, 0, 0, 0, 0, 0, 0, 0, 0, 0, 0, 0, 0] 6 0), .int .u8 (List.getD [1, 0, 0, 0, 0, 0, 0, 0, 0, 0, 0, 0, 0, 0, 0, 0] 7 0), .int .u8 (List.getD [1, 0, 0, 0, 0, 0, 0, 0, 0, 0, 0, 0, 0, 0, 0, 0] 8 0), .int .u8 (List.getD [1, 0, 0, 0, 0, 0, 0, 0, 0, 0, 0, 0, 0, 0, 0, 0] 9 0), .int .u8 (List.getD [1, 0, 0, 0, 0, 0, 0, 0, 0, 0, 0, 0, 0, 0, 0, 0] 10 0), .int .u8 (List.getD [1, 0, 0, 0, 0, 0, 0, 0, 0, 0, 0, 0, 0, 0, 0, 0] 11 0), .int .u8 (List.getD [1, 0, 0, 0, 0, 0, 0, 0, 0, 0, 0, 0, 0, 0, 0, 0] 12 0), .int .u8 (List.getD [1, 0, 0, 0, 0, 0, 0, 0, 0, 0, 0, 0, 0, 0, 0, 0] 13 0), .int .u8 (List.getD [1, 0, 0, 0, 0, 0, 0, 0, 0, 0, 0, 0, 0, 0, 0, 0] 14 0), .int .u8 (List.getD [1, 0, 0, 0, 0, 0, 0, 0, 0, 0, 0, 0, 0, 0, 0, 0] 15 0), .int .u8 (List.getD [0, 0, 0, 0, 0, 0, 0, 0, 0, 0, 0, 0, 0, 0, 0, 2] 0 0), .int .u8 (List.getD [0, 0, 0, 0, 0, 0, 0, 0, 0, 0, 0, 0, 0, 0, 0, 2] 1 0), .int .u8 (List.getD [0, 0, 0, 0, 0, 0, 0, 0, 0, 0, 0, 0, 0, 0, 0, 2] 2 0), .int .u8 (List.getD [0, 0, 0, 0, 0, 0, 0, 0, 0, 0, 0, 0, 0, 0, 0, 2] 3 0), .int .u8 (List.getD [0, 0, 0, 0, 0, 0, 0, 0, 0, 0, 0, 0, 0, 0, 0, 2] 4 0), .int .u8 (List.getD [0, 0, 0, 0, 0, 0, 0, 0, 0, 0, 0, 0, 0, 0, 0, 2] 5 0), .int .u8 (List.getD [0, 0, 0, 0, 0, 0, 0, 0, 0, 0, 0, 0, 0, 0, 0, 2] 6 0), .int .u8 (List.getD [0, 0, 0, 0, 0, 0, 0, 0, 0, 0, 0, 0, 0, 0, 0, 2] 7 0), .int .u8 (List.getD [0, 0, 0, 0, 0, 0, 0, 0, 0, 0, 0, 0, 0, 0, 0, 2] 8 0), .int .u8 (List.getD [0, 0, 0, 0, 0, 0, 0, 0, 0, 0, 0, 0, 0, 0, 0, 2] 9 0), .int .u8 (List.getD [0, 0, 0, 0, 0, 0, 0, 0, 0, 0, 0, 0, 0, 0, 0, 2] 10 0), .int .u8 (List.getD [0, 0, 0, 0, 0, 0, 0, 0, 0, 0, 0, 0, 0, 0, 0, 2] 11 0), .int .u8 (List.getD [0, 0, 0, 0, 0, 0, 0, 0, 0, 0, 0, 0, 0, 0, 0, 2] 12 0), .int .u8 (List.getD [0, 0, 0, 0, 0, 0, 0, 0, 0, 0, 0, 0, 0, 0, 0, 2] 13 0), .int .u8 (List.getD [0, 0, 0, 0, 0, 0, 0, 0, 0, 0, 0, 0, 0, 0, 0, 2] 14 0), .int .u8 (List.getD [0, 0, 0, 0, 0, 0, 0, 0, 0, 0, 0, 0, 0, 0, 0, 2] 15 0)]) ag52 rfl (Cs.addsN [] ((hM.bx (i := 4) rfl).fut hf) rfl)) ?_
                    refine RD.p rfl rfl rfl rfl (fun w' => O.move rfl) ?_
                    refine RD.p rfl rfl rfl rfl (fun w' => O.move rfl) ?_
                    refine obindE hF fun cut2320 hy2321 hF => ?_
                    obtain ⟨A2322, c2323, eA2325, ec2326⟩ := cutN A2182 c2183 (Int.toNat 0) 1
                    have hr2324 := Rd.cutT (enc := (eI .u8)) (s := 1) (fun _ => rfl) (hM.rd (i := 5) rfl) hy2321 (m := c2183) (by have := (hM.rd (i := 5) rfl).cap; have := (gcut_some hy2321).2.2.1; omega) (Nat.le_refl _)
                    rw [← eA2325, ← ec2326] at hr2324
                    refine RD.p (v := .slice A2322 (cut2320).length c2323) rfl rfl rfl rfl (fun w' => (by rw [eA2325, ec2326]; exact O.cuthT sl31 (hM.rd (i := 5) rfl) hy2321 rfl rfl)) ?_
                    refine obindE hF fun y2327 hx2328 hF => ?_
                    refine RD.mcall rfl rfl trivial Try.func5 bd5 rfl rfl (c_law06_IpsixHeads _ (T_ipsix_Header.mk 255 1048575 7 6 9 ([1, 0, 0, 0, 0, 0, 0, 0, 0, 0, 0, 0, 0, 0, 0, 0]) ([0, 0, 0, 0, 0, 0, 0, 0, 0, 0, 0, 0, 0, 0, 0, 2])) _ _ cut2320 hr2324 _ hx2328) fun v w2329 hv => ?_
                    obtain ⟨rfl, hN2330⟩ := hv
                    refine ⟨fun _ => hN2330.fut, ?_⟩
                    have hr2324 := hr2324.fut hN2330.fut
                    replace hM := hM.call0 hN2330
                    refine RD.p rfl rfl rfl rfl (fun w' => O.not rfl) ?_
                    refine RD.p rfl rfl rfl rfl (fun w' => O.move rfl) ?_
                    refine RD.bcase (t := 238) rfl (fun hc => ?_) (fun hc => ?_)
                    · rw [if_pos hc] at hF
                      refine RD.gskip rfl rfl rfl rfl rfl ?_
                      refine RD.gskip rfl rfl rfl rfl rfl ?_
                      refine RD.gskip rfl rfl rfl rfl rfl ?_
                      refine RD.gskip rfl rfl rfl rfl rfl ?_
                      refine RD.gskip rfl rfl rfl rfl rfl ?_
                      refine RD.gskip rfl rfl rfl rfl rfl ?_
                      refine RD.gskip rfl rfl rfl rfl rfl ?_
                      refine RD.gskip rfl rfl rfl rfl rfl ?_
                      refine RD.gskip rfl rfl rfl rfl rfl ?_
                      refine RD.gskip rfl rfl rfl rfl rfl ?_
                      refine RD.gskip rfl rfl rfl rfl rfl ?_
                      refine RD.p rfl rfl rfl rfl (fun w' => O.pickt rfl rfl) ?_
                      refine RD.nil ?_
                      refine KQ.then_k ?_
                      exact fun a ha => ⟨A2307, c2308, css2309, Z2310, long2312, true, ha.less (less_cons rfl (less_cons rfl (less_cons rfl (less_cons rfl (less_cons rfl (less_cons rfl less_nil)))))), hM, hF⟩
                    · rw [if_neg (ne_true hc)] at hF
                      refine RD.gp rfl rfl rfl rfl rfl rfl (fun w' => O.move rfl) ?_
                      refine RD.gp rfl rfl rfl rfl rfl rfl (fun w' => O.move rfl) ?_
                      refine obindE hF fun cut2331 hy2332 hF => ?_
                      obtain ⟨A2333, c2334, eA2336, ec2337⟩ := cutN A2182 c2183 (Int.toNat 0) 1
                      have hr2335 := Rd.cutT (enc := (eI .u8)) (s := 1) (fun _ => rfl) (hM.rd (i := 5) rfl) hy2332 (m := c2183) (by have := (hM.rd (i := 5) rfl).cap; have := (gcut_some hy2332).2.2.1; omega) (Nat.le_refl _)
                      rw [← eA2336, ← ec2337] at hr2335
                      refine RD.gp (v := .slice A2333 (cut2331).length c2334) rfl rfl rfl rfl rfl rfl (fun w' => (by rw [eA2336, ec2337]; exact O.cuthT sl31 (hM.rd (i := 5) rfl) hy2332 rfl rfl)) ?_
                      refine RD.gp rfl rfl rfl rfl rfl rfl (fun w' => O.move rfl) ?_
                      refine RD.gp rfl rfl rfl rfl rfl rfl (fun w' => O.move rfl) ?_
                      refine RD.gp rfl rfl rfl rfl rfl rfl (fun w' => O.rem rfl rfl (by decide)) ?_
                      refine obindE hF fun cut2338 hy2339 hF => ?_
                      obtain ⟨A2340, c2341, eA2343, ec2344⟩ := cutN A2162 c2163 (Int.toNat 0) 1
                      have hr2342 := Rd.cutT (enc := (eI .u8)) (s := 1) (fun _ => rfl) (hM.rd (i := 3) rfl) hy2339 (m := c2163) (by have := (hM.rd (i := 3) rfl).cap; have := (gcut_some hy2339).2.2.1; omega) (Nat.le_refl _)
                      rw [← eA2343, ← ec2344] at hr2342
                      refine RD.gp (v := .slice A2340 (cut2338).length c2341) rfl rfl rfl rfl rfl rfl (fun w' => (by rw [eA2343, ec2344]; exact O.cuthT sl31 (hM.rd (i := 3) rfl) hy2339 rfl rfl)) ?_
                      refine obindE hF fun y2345 hx2346 hF => ?_
                      refine RD.mcall rfl rfl ⟨rfl, rfl⟩ Try.func20 bd20 rfl rfl (c_kit_Own _ _ _ cut2331 hr2335 _ hx2346) fun v w2347 hv => ?_
                      obtain ⟨A2349, c2350, rfl, hN2348⟩ := hv
                      refine ⟨fun _ => hN2348.fut, ?_⟩
                      have hr2324 := hr2324.fut hN2348.fut
                      have hr2335 := hr2335.fut hN2348.fut
                      have hr2342 := hr2342.fut hN2348.fut
                      replace hM := hM.call hN2348
                      refine cut_someE hF fun hq2355 hF => ?_
                      refine RD.gmeff rfl rfl rfl rfl (E.app (enc := (eI .u8)) (xs := y2345) (ys := cut2338) (j := 6) hM rfl sl31 ze5 rfl rfl rfl rfl rfl hr2342 (fun _ => One.all rfl) (of_decide_eq_true hq2355)) rfl fun v w2354 hv => ?_
                      clear hM
                      obtain ⟨A2352, c2353, rfl, hM, hf⟩ := hv
                      refine ⟨fun h => (by cases h), ?_⟩
                      have hr2324 := Rd.cutT (enc := (eI .u8)) (s := 1) (fun _ => rfl) (hM.rd (i := 5) rfl) hy2321 (m := c2183) (by have := (hM.rd (i := 5) rfl).cap; have := (gcut_some hy2321).2.2.1; omega) (Nat.le_refl _)
                      rw [← eA2325, ← ec2326] at hr2324
                      have hr2335 := Rd.cutT (enc := (eI .u8)) (s := 1) (fun _ => rfl) (hM.rd (i := 5) rfl) hy2332 (m := c2183) (by have := (hM.rd (i := 5) rfl).cap; have := (gcut_some hy2332).2.2.1; omega) (Nat.le_refl _)
                      rw [← eA2336, ← ec2337] at hr2335
                      have hr2342 := Rd.cutT (enc := (eI .u8)) (s := 1) (fun _ => rfl) (hM.rd (i := 3) rfl) hy2339 (m := c2163) (by have := (hM.rd (i := 3) rfl).cap; have := (gcut_some hy2339).2.2.1; omega) (Nat.le_refl _)
                      rw [← eA2343, ← ec2344] at hr2342
                      refine obindE hF fun y2357 hx2358 hF => ?_
                      refine RD.mcall rfl rfl ⟨rfl, rfl⟩ Try.func4 bd4 rfl rfl (c_law06_IpsixParses _ 6 _ _ (y2345 ++ cut2338) (hM.rd (i := 6) rfl) _ hx2358) fun v w2359 hv => ?_
                      obtain ⟨rfl, hN2360⟩ := hv
                      refine ⟨fun _ => hN2360.fut, ?_⟩
                      have hr2324 := hr2324.fut hN2360.fut
                      have hr2335 := hr2335.fut hN2360.fut
                      have hr2342 := hr2342.fut hN2360.fut
                      replace hM := hM.call0 hN2360
                      refine RD.gp rfl rfl rfl rfl rfl rfl (fun w' => O.not rfl) ?_
                      refine RD.p rfl rfl rfl rfl (fun w' => O.pickf rfl rfl) ?_
                      refine RD.nil ?_
                      refine KQ.then_k ?_
                      replace hM := hM.pick [0, 1, 2, 3, 4, 5] rfl (by decide)
                      exact fun a ha => ⟨A2307, c2308, css2309, Z2310, long2312, (!y2357), ha.less (less_cons rfl (less_cons rfl (less_cons rfl (less_cons rfl (less_cons rfl (less_cons rfl less_nil)))))), hM, hF⟩
                  · rintro a w2373 ⟨A2363, c2364, css2365, Z2366, long2368, t2372, ha, hM, hF⟩
                    refine KC.app ha ?_
                    clear ha
                    unfold F_law06_IpsixKnown_j9 at hF
                    refine KC.cond rfl (fun hc => ?_) (fun hc => ?_)
                    · rw [if_pos hc] at hF
                      refine KC.seq ?_
                      refine KC.region ?_
                      refine RL.val (O.assign rfl) rfl ?_
                      refine RL.nil ?_
                      refine KQ.then_n ?_
                      refine KC.ret ?_
                      refine KQ.blk_r ?_
                      refine KQ.then_r ?_
                      refine KQ.then_r ?_
                      refine KQ.blk_r ?_
                      refine KQ.then_r ?_
                      obtain rfl := Option.some.inj hF
                      replace hM := hM.pick [] rfl (by decide)
                      refine KQ.rets Try.results7 (RVs.cons (RV.tm rfl) RVs.nil) ?_
                      exact ⟨_, rfl, rfl, hM⟩
                    · rw [if_neg (ne_true hc)] at hF
                      refine KC.skip ?_
                      refine KQ.blk_n ?_
                      refine KQ.then_n ?_
                      refine KC.region ?_
                      refine RL.val (O.move rfl) rfl ?_
                      refine RL.val (O.add rfl rfl) rfl ?_
                      refine RL.val (O.assign rfl) rfl ?_
                      refine RL.nil ?_
                      refine KQ.then_k ?_
                      exact fun a ha => ⟨k2319, Nat.lt_succ_self k2319, A2363, c2364, css2365, Z2366, long2368, (IntKind.i64.wrap (i2316 + 1)), ha.less (less_cons rfl (less_cons rfl (less_cons rfl (less_cons rfl (less_cons rfl less_nil))))), hM, hF⟩
                · rw [if_neg (ne_true hc)] at hF
                  refine KC.exit ?_
                  refine KQ.then_x ?_
                  refine KQ.then_x ?_
                  refine KQ.blk_x ?_
                  refine KQ.then_n ?_
                  refine KC.cut (fun a w2394 => ∃ (t2393 : Bool), Kn 266 [(0, .bool t2393)] a ∧ Mem w [] w2394 [] ∧ F_law06_IpsixKnown_j10 t2393 = some r) ?_ ?_
                  · refine KC.region ?_
                    refine RL.val (O.loadN (cs := [.slice A2307 (long2312).length c2308, .int .u8 6]) ag24 rfl (Cs.addsN [] ((hM.bx (i := 2) rfl)) rfl)) rfl ?_
                    refine RL.val (O.bld (cs := [.slice none 0 0, .int .u8 0]) bt24 rfl (by kernel_rfl)) rfl ?_
                    refine obindE hF fun y2374 hx2375 hF => ?_
                    refine RL.call Try.func3 bd3 rfl rfl (c_law06_IpsixChains _ (T_ipsix_Chain.mk long2312 6) _ _ (hM.rdD (i := 0) (j := 1) uo_ipsix_Ext rfl rfl) (T_ipsix_Chain.mk ([]) 0) none 0 RdD.nilr _ hx2375) fun v w2376 hv => ?_
                    obtain ⟨rfl, hN2377⟩ := hv
                    replace hM := hM.call0 hN2377
                    refine RL.val (O.move rfl) rfl ?_
                    refine RL.bcase (t := 254) rfl (fun hc => ?_) (fun hc => ?_)
                    · rw [if_pos hc] at hF
                      refine RL.gval rfl rfl (O.move rfl) rfl ?_
                      refine obindE hF fun y2378 hx2379 hF => ?_
                      refine RL.gcall rfl rfl Try.func4 bd4 rfl rfl (c_law06_IpsixParses _ 60 _ _ many2164 (hM.rd (i := 3) rfl) _ hx2379) fun v w2380 hv => ?_
                      obtain ⟨rfl, hN2381⟩ := hv
                      replace hM := hM.call0 hN2381
                      refine RL.val (O.pickt rfl rfl) rfl ?_
                      refine RL.val (O.move rfl) rfl ?_
                      refine RL.bcase (t := 258) rfl (fun hc => ?_) (fun hc => ?_)
                      · rw [if_pos hc] at hF
                        refine RL.gval rfl rfl (O.bld (cs := [.int .u8 0, .int .u32 1048576, .int .u16 0, .int .u8 0, .int .u8 0, .int .u8 (List.getD (List.replicate 16 0) 0 0), .int .u8 (List.getD (List.replicate 16 0) 1 0), .int .u8 (List.getD (List.replicate 16 0) 2 0), .int .u8 (List.getD (List.replicate 16 0) 3 0), .int .u8 (List.getD (List.replicate 16 0) 4 0), .int .u8 (List.getD (List.replicate 16 0) 5 0), .int .u8 (List.getD (List.replicate 16 0) 6 0), .int .u8 (List.getD (List.replicate 16 0) 7 0), .int .u8 (List.getD (List.replicate 16 0) 8 0), .int .u8 (List.getD (List.replicate 16 0) 9 0), .int .u8 (List.getD (List.replicate 16 0) 10 0), .int .u8 (List.getD (List.replicate 16 0) 11 0), .int .u8 (List.getD (List.replicate 16 0) 12 0), .int .u8 (List.getD (List.replicate 16 0) 13 0), .int .u8 (List.getD (List.replicate 16 0) 14 0), .int .u8 (List.getD (List.replicate 16 0) 15 0), .int .u8 (List.getD (List.replicate 16 0) 0 0), .int .u8 (List.getD (List.replicate 16 0) 1 0), .int .u8 (List.getD (List.replicate 16 0) 2 0), .int .u8 (List.getD (List.replicate 16 0) 3 0), .int .u8 (List.getD (List.replicate 16 0) 4 0), .int .u8 (List.getD (List.replicate 16 0) 5 0), .int .u8 (List.getD (List.replicate 16 0) 6 0), .int .u8 (List.getD (List.replicate 16 0) 7 0), .int .u8 (List.getD (List.replicate 16 0) 8 0), .int .u8 (List.getD (List.replicate 16 0) 9 0), .int .u8 (List.getD (List.replicate 16 0) 10 0), .int .u8 (List.getD (List.replicate 16 0) 11 0), .int .u8 (List.getD (List.replicate 16 0) 12 0), .int .u8 (List.getD (List.replicate 16 0) 13 0), .int .u8 (List.getD (List.replicate 16 0) 14 0), .int .u8 (List.getD (List.replicate 16 0) 15 0)]) bt52 rfl (by kernel_rfl)) rfl ?_
                        refine RL.geff rfl rfl (E.bsl (enc := (eI .u8)) (xs := ([96] : List Int)) hM sl31 ze5 rfl rfl rfl (fun _ => rfl) rfl (by kernel_rfl) rfl) rfl fun v w2382 hv => ?_
                        clear hM
                        obtain ⟨A2383, rfl, hM, hf⟩ := hv
                        refine obindE hF fun y2385 hx2386 hF => ?_
                        refine RL.gcall rfl rfl Try.func5 bd5 rfl rfl (c_law06_IpsixHeads _ (T_ipsix_Header.mk 0 1048576 0 0 0 (List.replicate 16 0) (List.replicate 16 0)) _ _ ([96] : List Int) (hM.rd (i := 6) rfl) _ hx2386) fun v w2387 hv => ?_
                        obtain ⟨rfl, hN2388⟩ := hv
                        replace hM := hM.call0 hN2388
                        refine RL.val (O.pickt rfl rfl) rfl ?_
                        refine RL.val (O.move rfl) rfl ?_
                        refine RL.bcase (t := 263) rfl (fun hc => ?_) (fun hc => ?_)
                        · rw [if_pos hc] at hF
                          refine obindE hF fun y2389 hx2390 hF => ?_
                          refine RL.gcall rfl rfl Try.func9 bd9 rfl rfl (c_law06_works _ _ hx2390) fun v w2391 hv => ?_
                          obtain ⟨rfl, hN2392⟩ := hv
                          replace hM := hM.call0 hN2392
                          refine RL.val (O.pickt rfl rfl) rfl ?_
                          refine RL.val (O.assign rfl) rfl ?_
                          refine RL.nil ?_
                          refine KQ.then_k ?_
                          replace hM := hM.pick [] rfl (by decide)
                          exact fun a ha => ⟨y2389, ha.less (less_cons rfl less_nil), hM, hF⟩
                        · rw [if_neg (ne_true hc)] at hF
                          refine RL.gskip rfl rfl rfl rfl ?_
                          refine RL.val (O.pickf rfl rfl) rfl ?_
                          refine RL.val (O.assign rfl) rfl ?_
                          refine RL.nil ?_
                          refine KQ.then_k ?_
                          replace hM := hM.pick [] rfl (by decide)
                          exact fun a ha => ⟨false, ha.less (less_cons rfl less_nil), hM, hF⟩
                      · rw [if_neg (ne_true hc)] at hF
                        refine RL.brun1 7 265 false (by kernel_rfl) ?_
                        refine RL.val (O.assign rfl) rfl ?_
                        refine RL.nil ?_
                        refine KQ.then_k ?_
                        replace hM := hM.pick [] rfl (by decide)
                        exact fun a ha => ⟨false, ha.less (less_cons rfl less_nil), hM, hF⟩
                    · rw [if_neg (ne_true hc)] at hF
                      refine RL.brun1 11 265 false (by kernel_rfl) ?_
                      refine RL.val (O.assign rfl) rfl ?_
                      refine RL.nil ?_
                      refine KQ.then_k ?_
                      replace hM := hM.pick [] rfl (by decide)
                      exact fun a ha => ⟨false, ha.less (less_cons rfl less_nil), hM, hF⟩
                  · rintro a w2394 ⟨t2393, ha, hM, hF⟩
                    refine KC.app ha ?_
                    clear ha
                    unfold F_law06_IpsixKnown_j10 at hF
                    refine KC.ret ?_
                    obtain rfl := Option.some.inj hF
                    refine KQ.rets Try.results7 (RVs.cons (RV.tm rfl) RVs.nil) ?_
                    exact ⟨_, rfl, rfl, hM⟩
end Go.Proofs.Ytikjomacnbemhaa
