/- Printed by a program of this claim: each call returns what the plain function of its name gives. -/
import Derived.Test.YtjfdfjmnajjjaaaW1
import Derived.Test.YtjfdfjmnajjjaaaW6
import Derived.Test.YtjfdfjmnajjjaaaW7
set_option linter.unusedVariables false
namespace Go.Proofs.Ytjfdfjmnajjjaaa
open Go Go.Ox Go.RowKit
set_option maxRecDepth 100000 in
set_option maxHeartbeats 40000000 in
theorem c_law05_IpOptions (w : World) (A2 : Option Addr) (c3 : Nat) (b1 : List Int) (hr4 : Rd w A2 c3 1 b1.length (b1.flatMap (eI .u8))) (r : Bool) (hF : F_law05_IpOptions b1 = some r) :
    CallsR Try.prog 3 [.slice A2 (b1).length c3] w (fun v w' => v = .bool r ∧ Mem w [] w' []) := by
  refine calls_KC Try.func3 rfl Try.ntmps3 rfl ?_
  have hM := Mem.init w
  unfold F_law05_IpOptions at hF
  refine KC.seqH fun Q5 hQ5 => ?_
  refine KC.region ?_
  refine RL.val (O.assign rfl) rfl ?_
  refine RL.nil ?_
  refine KQ.thn hQ5 ?_
  clear hQ5 Q5
  refine KC.seqH fun Q6 hQ6 => ?_
  refine KC.seqH fun Q7 hQ7 => ?_
  refine KC.region ?_
  refine RL.val (O.move rfl) rfl ?_
  refine RL.val (O.len sl22 rfl) rfl ?_
  refine RL.val (O.gtr rfl rfl) rfl ?_
  refine RL.nil ?_
  refine KQ.thn hQ7 ?_
  clear hQ7 Q7
  refine KC.cond rfl (fun hc => ?_) (fun hc => ?_)
  · rw [if_pos hc] at hF
    refine KC.seqH fun Q8 hQ8 => ?_
    refine KC.region ?_
    refine obindE hF fun y9 hx10 hF => ?_
    refine RL.call Try.func8 bd8 rfl rfl (c_law05_works _ _ hx10) fun v w11 hv => ?_
    obtain ⟨rfl, hN12⟩ := hv
    replace hM := hM.call0 hN12
    refine RL.val (O.assign rfl) rfl ?_
    refine RL.nil ?_
    refine KQ.thn hQ8 ?_
    clear hQ8 Q8
    refine KC.ret ?_
    refine KQ.thr hQ6 ?_
    clear hQ6 Q6
    have hE := Option.some.inj hF
    clear hF
    subst hE
    refine KQ.rets Try.results3 (RVs.cons (RV.tm rfl) RVs.nil) ?_
    exact ⟨_, rfl, rfl, hM⟩
  · rw [if_neg (ne_true hc)] at hF
    refine KC.skip ?_
    refine KQ.thn hQ6 ?_
    clear hQ6 Q6
    refine KC.seqH fun Q13 hQ13 => ?_
    refine KC.region ?_
    refine RL.val (O.move rfl) rfl ?_
    refine RL.val (O.b2s sl22 Try.underlying5 Try.underlying9 rfl ((hM.inp hr4 Off.nil))) rfl ?_
    refine obindE hF fun y14 hx15 hF => ?_
    refine RL.call Try.func9 bd9 rfl rfl (c_ref05_Options _ (strOfNums b1) _ hx15) fun v w16 hv => ?_
    obtain ⟨A18, c19, rfl, hN17⟩ := hv
    replace hM := hM.call hN17
    refine RL.val (O.move rfl) rfl ?_
    refine RL.val (O.ext rfl rfl) rfl ?_
    refine RL.val (O.ext rfl rfl) rfl ?_
    refine RL.val (O.assign rfl) rfl ?_
    refine RL.val (O.assign rfl) rfl ?_
    refine RL.nil ?_
    refine KQ.thn hQ13 ?_
    clear hQ13 Q13
    refine KC.seqH fun Q21 hQ21 => ?_
    refine KC.seqH fun Q22 hQ22 => ?_
    refine KC.region ?_
    refine RL.val (O.assign rfl) rfl ?_
    refine RL.nil ?_
    refine KQ.thn hQ22 ?_
    clear hQ22 Q22
    refine KC.block ?_
    refine KC.loop (fun k1265 a w1263 => ∃ (t1262 : Int), Kn 91 [(0, .slice A2 (b1).length c3), (3, .slice A18 (y14.1).length c19), (4, .int .i64 y14.2), (5, .int .i64 t1262)] a ∧ Mem w [] w1263 [.row A18 c19 34 2 (y14.1).length ((y14.1).flatMap e_ref05_Option)] ∧ F_law05_IpOptions_L1 b1 y14 k1265 t1262 = some r) ?_ ?_
    · exact fun a ha => ⟨fuel0, 0, ha.less (less_cons rfl (less_cons rfl (less_cons rfl (less_cons rfl less_nil)))), hM, hF⟩
    · rintro k1265 a w1263 ⟨t1262, ha, hM, hF⟩
      refine KC.app ha ?_
      clear ha
      cases k1265 with
      | zero => exact (none_some hF).elim
      | succ k1265 =>
      have hF : F_law05_IpOptions_l1 (F_law05_IpOptions_L1 b1 y14 k1265) b1 y14 t1262 = some r := hF
      unfold F_law05_IpOptions_l1 at hF
      refine KC.seqH fun Q1266 hQ1266 => ?_
      refine KC.seqH fun Q1267 hQ1267 => ?_
      refine KC.region ?_
      refine RL.val (O.move rfl) rfl ?_
      refine RL.val (O.lss rfl rfl) rfl ?_
      refine RL.nil ?_
      refine KQ.thn hQ1267 ?_
      clear hQ1267 Q1267
      refine KC.cond rfl (fun hc => ?_) (fun hc => ?_)
      · rw [if_pos hc] at hF
        refine KC.skip ?_
        refine KQ.thn hQ1266 ?_
        clear hQ1266 Q1266
        refine KC.seqH fun Q1268 hQ1268 => ?_
        refine KC.block ?_
        refine KC.seqH fun Q1269 hQ1269 => ?_
        refine KC.region ?_
        refine RL.val (O.move rfl) rfl ?_
        refine obindE hF fun y1270 hx1271 hF => ?_
        refine RL.call Try.func10 bd10 rfl rfl (c_ip_Options _ _ _ b1 (hM.inp hr4 Off.nil) _ hx1271) fun v w1272 hv => ?_
        obtain ⟨A1274, c1275, css1277, Z1278, rfl, hN1273⟩ := hv
        replace hM := hM.call hN1273
        refine RL.val (O.move rfl) rfl ?_
        refine RL.val (O.ext rfl rfl) rfl ?_
        refine RL.val (O.ext rfl rfl) rfl ?_
        refine RL.val (O.assign rfl) rfl ?_
        refine RL.val (O.assign rfl) rfl ?_
        refine RL.nil ?_
        refine KQ.thn hQ1269 ?_
        clear hQ1269 Q1269
        refine KC.seqH fun Q1280 hQ1280 => ?_
        refine KC.cut (fun a w1290 => ∃ (A1283 : Option Addr) (c1284 : Nat) (css1285 : List (List Value)) (Z1286 : List Nat) (lv1288 : List T_ip_Option) (t1289 : Bool), Kn 91 [(0, .slice A2 (b1).length c3), (3, .slice A18 (y14.1).length c19), (4, .int .i64 y14.2), (5, .int .i64 t1262), (6, .slice A1283 (lv1288).length c1284), (38, .bool t1289)] a ∧ Mem w [] w1290 [.row A18 c19 34 2 (y14.1).length ((y14.1).flatMap e_ref05_Option), .row A1283 c1284 32 2 (lv1288).length (css1285).flatten, .res Z1286 (Els RO_ip_Option 2 lv1288 css1285 Z1286)] ∧ F_law05_IpOptions_j1 y14 t1262 (F_law05_IpOptions_L1 b1 y14 k1265) lv1288 t1289 = some r) ?_ ?_
        · refine KC.region ?_
          refine RL.val (O.move rfl) rfl ?_
          refine RL.val (O.move rfl) rfl ?_
          refine RL.val (O.neq rfl rfl) rfl ?_
          refine RL.val (O.move rfl) rfl ?_
          refine RL.bcase (t := 32) rfl (fun hc => ?_) (fun hc => ?_)
          · rw [if_pos hc] at hF
            refine RL.gskip rfl rfl rfl rfl ?_
            refine RL.gskip rfl rfl rfl rfl ?_
            refine RL.gskip rfl rfl rfl rfl ?_
            refine RL.gskip rfl rfl rfl rfl ?_
            refine RL.gskip rfl rfl rfl rfl ?_
            refine RL.val (O.pickt rfl rfl) rfl ?_
            refine RL.nil ?_
            refine KQ.then_k ?_
            exact fun a ha => ⟨A1274, c1275, css1277, Z1278, y1270.1, true, ha.less (less_cons rfl (less_cons rfl (less_cons rfl (less_cons rfl (less_cons rfl (less_cons rfl less_nil)))))), hM, hF⟩
          · rw [if_neg (ne_true hc)] at hF
            refine RL.gval rfl rfl (O.move rfl) rfl ?_
            refine RL.gval rfl rfl (O.len sl28 rfl) rfl ?_
            refine RL.gval rfl rfl (O.move rfl) rfl ?_
            refine RL.gval rfl rfl (O.len sl24 rfl) rfl ?_
            refine RL.gval rfl rfl (O.neq rfl rfl) rfl ?_
            refine RL.val (O.pickf rfl rfl) rfl ?_
            refine RL.nil ?_
            refine KQ.then_k ?_
            exact fun a ha => ⟨A1274, c1275, css1277, Z1278, y1270.1, ((y1270.1.length : Int) != (y14.1.length : Int)), ha.less (less_cons rfl (less_cons rfl (less_cons rfl (less_cons rfl (less_cons rfl (less_cons rfl less_nil)))))), hM, hF⟩
        · rintro a w1290 ⟨A1283, c1284, css1285, Z1286, lv1288, t1289, ha, hM, hF⟩
          refine KC.app ha ?_
          clear ha
          unfold F_law05_IpOptions_j1 at hF
          refine KC.cond rfl (fun hc => ?_) (fun hc => ?_)
          · rw [if_pos hc] at hF
            refine KC.seqH fun Q1291 hQ1291 => ?_
            refine KC.region ?_
            refine RL.val (O.assign rfl) rfl ?_
            refine RL.nil ?_
            refine KQ.thn hQ1291 ?_
            clear hQ1291 Q1291
            refine KC.ret ?_
            refine KQ.thr hQ1280 ?_
            clear hQ1280 Q1280
            refine KQ.blk_r ?_
            refine KQ.thr hQ1268 ?_
            clear hQ1268 Q1268
            refine KQ.then_r ?_
            refine KQ.blk_r ?_
            refine KQ.thr hQ21 ?_
            clear hQ21 Q21
            have hE := Option.some.inj hF
            clear hF
            subst hE
            replace hM := hM.pick [] rfl (by decide)
            refine KQ.rets Try.results3 (RVs.cons (RV.tm rfl) RVs.nil) ?_
            exact ⟨_, rfl, rfl, hM⟩
          · rw [if_neg (ne_true hc)] at hF
            refine KC.skip ?_
            refine KQ.thn hQ1280 ?_
            clear hQ1280 Q1280
            refine KC.seqH fun Q1292 hQ1292 => ?_
            refine KC.region ?_
            refine RL.val (O.assign rfl) rfl ?_
            refine RL.nil ?_
            refine KQ.thn hQ1292 ?_
            clear hQ1292 Q1292
            refine KC.block ?_
            refine KC.loop (fun k1693 a w1691 => ∃ (A1684 : Option Addr) (c1685 : Nat) (css1686 : List (List Value)) (Z1687 : List Nat) (lv1689 : List T_ip_Option) (i1690 : Int), Kn 91 [(0, .slice A2 (b1).length c3), (3, .slice A18 (y14.1).length c19), (4, .int .i64 y14.2), (5, .int .i64 t1262), (6, .slice A1684 (lv1689).length c1685), (8, .int .i64 i1690)] a ∧ Mem w [] w1691 [.row A18 c19 34 2 (y14.1).length ((y14.1).flatMap e_ref05_Option), .row A1684 c1685 32 2 (lv1689).length (css1686).flatten, .res Z1687 (Els RO_ip_Option 2 lv1689 css1686 Z1687)] ∧ F_law05_IpOptions_L2 y14 t1262 (F_law05_IpOptions_L1 b1 y14 k1265) k1693 lv1689 i1690 = some r) ?_ ?_
            · exact fun a ha => ⟨fuel0, A1283, c1284, css1285, Z1286, lv1288, 0, ha.less (less_cons rfl (less_cons rfl (less_cons rfl (less_cons rfl (less_cons rfl (less_cons rfl less_nil)))))), hM, hF⟩
            · rintro k1693 a w1691 ⟨A1684, c1685, css1686, Z1687, lv1689, i1690, ha, hM, hF⟩
              refine KC.app ha ?_
              clear ha
              cases k1693 with
              | zero => exact (none_some hF).elim
              | succ k1693 =>
              have hF : F_law05_IpOptions_l2 (F_law05_IpOptions_L2 y14 t1262 (F_law05_IpOptions_L1 b1 y14 k1265) k1693) y14 t1262 (F_law05_IpOptions_L1 b1 y14 k1265) lv1689 i1690 = some r := hF
              unfold F_law05_IpOptions_l2 at hF
              refine KC.seqH fun Q1694 hQ1694 => ?_
              refine KC.seqH fun Q1695 hQ1695 => ?_
              refine KC.region ?_
              refine RL.val (O.move rfl) rfl ?_
              refine RL.val (O.move rfl) rfl ?_
              refine RL.val (O.len sl28 rfl) rfl ?_
              refine RL.val (O.lss rfl rfl) rfl ?_
              refine RL.nil ?_
              refine KQ.thn hQ1695 ?_
              clear hQ1695 Q1695
              refine KC.cond rfl (fun hc => ?_) (fun hc => ?_)
              · rw [if_pos hc] at hF
                refine KC.skip ?_
                refine KQ.thn hQ1694 ?_
                clear hQ1694 Q1694
                refine KC.seqH fun Q1696 hQ1696 => ?_
                refine KC.block ?_
                refine KC.seqH fun Q1697 hQ1697 => ?_
                refine KC.cut (fun a w1737 => ∃ (A1730 : Option Addr) (c1731 : Nat) (css1732 : List (List Value)) (Z1733 : List Nat) (lv1735 : List T_ip_Option) (t1736 : Bool), Kn 91 [(0, .slice A2 (b1).length c3), (3, .slice A18 (y14.1).length c19), (4, .int .i64 y14.2), (5, .int .i64 t1262), (6, .slice A1730 (lv1735).length c1731), (8, .int .i64 i1690), (69, .bool t1736)] a ∧ Mem w [] w1737 [.row A18 c19 34 2 (y14.1).length ((y14.1).flatMap e_ref05_Option), .row A1730 c1731 32 2 (lv1735).length (css1732).flatten, .res Z1733 (Els RO_ip_Option 2 lv1735 css1732 Z1733)] ∧ F_law05_IpOptions_j2 i1690 (F_law05_IpOptions_L2 y14 t1262 (F_law05_IpOptions_L1 b1 y14 k1265) k1693) lv1735 t1736 = some r) ?_ ?_
                · replace hM := hM.drewN 1
                  refine KC.draw [] [] [] [0, 1, 3, 5, 6, 8, 10, 11, 12, 13, 15, 18, 19, 21, 23, 24] (.ofList [0, 1, 2, 3, 4, 5, 6, 7, 8, 9, 10, 11, 12, 13, 14, 15, 16, 17, 18, 19, 20, 21, 22, 23, 24]) moP (by kernel_rfl) ?_
                  refine RD.p rfl rfl rfl rfl (fun w' => O.move rfl) ?_
                  refine RD.p rfl rfl rfl rfl (fun w' => O.move rfl) ?_
                  refine obindE hF fun xv1700 hx1702 hF => ?_
                  obtain ⟨cs1705, hA1701, hC1704, hR1703⟩ := hM.atD (i := 1) (j := 2) uo_ip_Option rfl rfl hx1702
                  obtain ⟨A1706, c1707, rfl, hr1708, ho1709⟩ := hR1703
                  refine RD.q rfl rfl rfl rfl (fun w' hf => O.idxA sl28 (hA1701.fut hf) rfl rfl) ?_
                  refine RD.p rfl rfl rfl rfl (fun w' => O.fldA fl32_0 (by decide) rfl) ?_
                  refine RD.q rfl rfl rfl rfl (fun w' hf => O.load sc5 rfl (Cs.adds [0] (hA1701.fut hf).cells rfl)) ?_
                  refine RD.p rfl rfl rfl rfl (fun w' => O.move rfl) ?_
                  refine RD.p rfl rfl rfl rfl (fun w' => O.move rfl) ?_
                  refine obindE hF fun xv1712 hx1711 hF => ?_
                  have hA1710 := Rd.atN (f := e_ref05_Option) (s := 2) (fun _ => rfl) (by decide) (hM.rd (i := 0) rfl) hx1711
                  refine RD.q rfl rfl rfl rfl (fun w' hf => O.idxA sl24 (hA1710.fut hf) rfl rfl) ?_
                  refine RD.p rfl rfl rfl rfl (fun w' => O.fldA fl34_0 (by decide) rfl) ?_
                  refine RD.q rfl rfl rfl rfl (fun w' hf => O.load sc5 rfl (Cs.adds [0] (hA1710.fut hf).cells rfl)) ?_
                  refine RD.p rfl rfl rfl rfl (fun w' => O.neq rfl rfl) ?_
                  refine RD.p rfl rfl rfl rfl (fun w' => O.move rfl) ?_
                  refine RD.bcase (t := 56) rfl (fun hc => ?_) (fun hc => ?_)
                  · rw [if_pos hc] at hF
                    refine RD.gskip rfl rfl rfl rfl rfl ?_
                    refine RD.gskip rfl rfl rfl rfl rfl ?_
                    refine RD.gskip rfl rfl rfl rfl rfl ?_
                    refine RD.gskip rfl rfl rfl rfl rfl ?_
                    refine RD.gskip rfl rfl rfl rfl rfl ?_
                    refine RD.gskip rfl rfl rfl rfl rfl ?_
                    refine RD.gskip rfl rfl rfl rfl rfl ?_
                    refine RD.gskip rfl rfl rfl rfl rfl ?_
                    refine RD.gskip rfl rfl rfl rfl rfl ?_
                    refine RD.gskip rfl rfl rfl rfl rfl ?_
                    refine RD.gskip rfl rfl rfl rfl rfl ?_
                    refine RD.gskip rfl rfl rfl rfl rfl ?_
                    refine RD.p rfl rfl rfl rfl (fun w' => O.pickt rfl rfl) ?_
                    refine RD.nil ?_
                    refine KQ.then_k ?_
                    exact fun a ha => ⟨A1684, c1685, css1686, Z1687, lv1689, true, ha.less (less_cons rfl (less_cons rfl (less_cons rfl (less_cons rfl (less_cons rfl (less_cons rfl (less_cons rfl less_nil))))))), hM, hF⟩
                  · rw [if_neg (ne_true hc)] at hF
                    refine RD.gp rfl rfl rfl rfl rfl rfl (fun w' => O.move rfl) ?_
                    refine RD.gp rfl rfl rfl rfl rfl rfl (fun w' => O.move rfl) ?_
                    refine obindE hF fun xv1715 hx1717 hF => ?_
                    obtain ⟨cs1720, hA1716, hC1719, hR1718⟩ := hM.atD (i := 1) (j := 2) uo_ip_Option rfl rfl hx1717
                    obtain ⟨A1721, c1722, rfl, hr1723, ho1724⟩ := hR1718
                    refine RD.gq rfl rfl rfl rfl rfl rfl (fun w' hf => O.idxA sl28 (hA1716.fut hf) rfl rfl) ?_
                    refine RD.gp rfl rfl rfl rfl rfl rfl (fun w' => O.fldA fl32_1 (by decide) rfl) ?_
                    refine RD.gq rfl rfl rfl rfl rfl rfl (fun w' hf => O.load sc22 rfl (Cs.adds [1] (hA1716.fut hf).cells rfl)) ?_
                    refine RD.gq rfl rfl rfl rfl rfl rfl (fun w' hf => O.b2s sl22 Try.underlying5 Try.underlying9 rfl (hr1723.fut hf)) ?_
                    refine RD.gp rfl rfl rfl rfl rfl rfl (fun w' => O.move rfl) ?_
                    refine RD.gp rfl rfl rfl rfl rfl rfl (fun w' => O.move rfl) ?_
                    refine obindE hF fun xv1727 hx1726 hF => ?_
                    have hA1725 := Rd.atN (f := e_ref05_Option) (s := 2) (fun _ => rfl) (by decide) (hM.rd (i := 0) rfl) hx1726
                    refine RD.gq rfl rfl rfl rfl rfl rfl (fun w' hf => O.idxA sl24 (hA1725.fut hf) rfl rfl) ?_
                    refine RD.gp rfl rfl rfl rfl rfl rfl (fun w' => O.fldA fl34_1 (by decide) rfl) ?_
                    refine RD.gq rfl rfl rfl rfl rfl rfl (fun w' hf => O.load sc9 rfl (Cs.adds [1] (hA1725.fut hf).cells rfl)) ?_
                    refine RD.gp rfl rfl rfl rfl rfl rfl (fun w' => O.strne rfl rfl) ?_
                    refine RD.p rfl rfl rfl rfl (fun w' => O.pickf rfl rfl) ?_
                    refine RD.nil ?_
                    refine KQ.then_k ?_
                    exact fun a ha => ⟨A1684, c1685, css1686, Z1687, lv1689, (!((strOfNums xv1715.f_Data).toList == xv1727.f_Data.toList)), ha.less (less_cons rfl (less_cons rfl (less_cons rfl (less_cons rfl (less_cons rfl (less_cons rfl (less_cons rfl less_nil))))))), hM, hF⟩
                · rintro a w1737 ⟨A1730, c1731, css1732, Z1733, lv1735, t1736, ha, hM, hF⟩
                  refine KC.app ha ?_
                  clear ha
                  unfold F_law05_IpOptions_j2 at hF
                  refine KC.cond rfl (fun hc => ?_) (fun hc => ?_)
                  · rw [if_pos hc] at hF
                    refine KC.seqH fun Q1738 hQ1738 => ?_
                    refine KC.region ?_
                    refine RL.val (O.assign rfl) rfl ?_
                    refine RL.nil ?_
                    refine KQ.thn hQ1738 ?_
                    clear hQ1738 Q1738
                    refine KC.ret ?_
                    refine KQ.thr hQ1697 ?_
                    clear hQ1697 Q1697
                    refine KQ.blk_r ?_
                    refine KQ.thr hQ1696 ?_
                    clear hQ1696 Q1696
                    refine KQ.then_r ?_
                    refine KQ.blk_r ?_
                    refine KQ.blk_r ?_
                    refine KQ.thr hQ1268 ?_
                    clear hQ1268 Q1268
                    refine KQ.then_r ?_
                    refine KQ.blk_r ?_
                    refine KQ.thr hQ21 ?_
                    clear hQ21 Q21
                    have hE := Option.some.inj hF
                    clear hF
                    subst hE
                    replace hM := hM.pick [] rfl (by decide)
                    refine KQ.rets Try.results3 (RVs.cons (RV.tm rfl) RVs.nil) ?_
                    exact ⟨_, rfl, rfl, hM⟩
                  · rw [if_neg (ne_true hc)] at hF
                    refine KC.skip ?_
                    refine KQ.thn hQ1697 ?_
                    clear hQ1697 Q1697
                    refine KC.seqH fun Q1739 hQ1739 => ?_
                    refine KC.region ?_
                    refine RL.val (O.assign rfl) rfl ?_
                    refine RL.nil ?_
                    refine KQ.thn hQ1739 ?_
                    clear hQ1739 Q1739
                    refine KC.block ?_
                    refine KC.loop (fun k1842 a w1840 => ∃ (A1833 : Option Addr) (c1834 : Nat) (css1835 : List (List Value)) (Z1836 : List Nat) (lv1838 : List T_ip_Option) (kv1839 : Int), Kn 91 [(0, .slice A2 (b1).length c3), (3, .slice A18 (y14.1).length c19), (4, .int .i64 y14.2), (5, .int .i64 t1262), (6, .slice A1833 (lv1838).length c1834), (8, .int .i64 i1690), (9, .int .i64 kv1839)] a ∧ Mem w [] w1840 [.row A18 c19 34 2 (y14.1).length ((y14.1).flatMap e_ref05_Option), .row A1833 c1834 32 2 (lv1838).length (css1835).flatten, .res Z1836 (Els RO_ip_Option 2 lv1838 css1835 Z1836)] ∧ F_law05_IpOptions_L3 i1690 (F_law05_IpOptions_L2 y14 t1262 (F_law05_IpOptions_L1 b1 y14 k1265) k1693) k1842 lv1838 kv1839 = some r) ?_ ?_
                    · exact fun a ha => ⟨fuel0, A1730, c1731, css1732, Z1733, lv1735, 0, ha.less (less_cons rfl (less_cons rfl (less_cons rfl (less_cons rfl (less_cons rfl (less_cons rfl (less_cons rfl less_nil))))))), hM, hF⟩
                    · rintro k1842 a w1840 ⟨A1833, c1834, css1835, Z1836, lv1838, kv1839, ha, hM, hF⟩
                      refine KC.app ha ?_
                      clear ha
                      cases k1842 with
                      | zero => exact (none_some hF).elim
                      | succ k1842 =>
                      have hF : F_law05_IpOptions_l3 (F_law05_IpOptions_L3 i1690 (F_law05_IpOptions_L2 y14 t1262 (F_law05_IpOptions_L1 b1 y14 k1265) k1693) k1842) i1690 (F_law05_IpOptions_L2 y14 t1262 (F_law05_IpOptions_L1 b1 y14 k1265) k1693) lv1838 kv1839 = some r := hF
                      unfold F_law05_IpOptions_l3 at hF
                      refine KC.seqH fun Q1843 hQ1843 => ?_
                      refine KC.seqH fun Q1844 hQ1844 => ?_
                      refine KC.region ?_
                      refine RL.val (O.move rfl) rfl ?_
                      refine RL.val (O.move rfl) rfl ?_
                      refine RL.val (O.move rfl) rfl ?_
                      refine obindE hF fun xv1847 hx1849 hF => ?_
                      obtain ⟨cs1852, hA1848, hC1851, hR1850⟩ := hM.atD (i := 1) (j := 2) uo_ip_Option rfl rfl hx1849
                      obtain ⟨A1853, c1854, rfl, hr1855, ho1856⟩ := hR1850
                      refine RL.val (O.idxA sl28 (hA1848) rfl rfl) rfl ?_
                      refine RL.val (O.fldA fl32_1 (by decide) rfl) rfl ?_
                      refine RL.val (O.load sc22 rfl (Cs.adds [1] (hA1848).cells rfl)) rfl ?_
                      refine RL.val (O.len sl22 rfl) rfl ?_
                      refine RL.val (O.lss rfl rfl) rfl ?_
                      refine RL.nil ?_
                      refine KQ.thn hQ1844 ?_
                      clear hQ1844 Q1844
                      refine KC.cond rfl (fun hc => ?_) (fun hc => ?_)
                      · rw [if_pos hc] at hF
                        refine KC.skip ?_
                        refine KQ.thn hQ1843 ?_
                        clear hQ1843 Q1843
                        refine KC.seqH fun Q1857 hQ1857 => ?_
                        refine KC.block ?_
                        refine KC.region ?_
                        refine RL.val (O.move rfl) rfl ?_
                        refine RL.val (O.move rfl) rfl ?_
                        refine obindE hF fun xv1860 hx1862 hF => ?_
                        obtain ⟨cs1865, hA1861, hC1864, hR1863⟩ := hM.atD (i := 1) (j := 2) uo_ip_Option rfl rfl hx1862
                        obtain ⟨A1866, c1867, rfl, hr1868, ho1869⟩ := hR1863
                        refine RL.val (O.idxA sl28 (hA1861) rfl rfl) rfl ?_
                        refine RL.val (O.fldA fl32_1 (by decide) rfl) rfl ?_
                        refine RL.val (O.load sc22 rfl (Cs.adds [1] (hA1861).cells rfl)) rfl ?_
                        refine RL.val (O.move rfl) rfl ?_
                        refine obindE hF fun xv1872 hx1871 hF => ?_
                        have hA1870 := Rd.atN (f := (eI .u8)) (s := 1) (fun _ => rfl) (by decide) hr1868 hx1871
                        refine RL.val (O.idxA sl22 (hA1870) rfl rfl) rfl ?_
                        refine RL.val (O.load sc5 rfl (hA1870).cells.at0) rfl ?_
                        refine RL.val (O.add rfl rfl) rfl ?_
                        refine obindE hF fun xv1875 hx1874 hF => ?_
                        have hA1873 := Rd.atN (f := (eI .u8)) (s := 1) (fun _ => rfl) (by decide) hr1868 hx1874
                        refine RL.val (O.idxA sl22 (hA1873) rfl rfl) rfl ?_
                        obtain ⟨Z1877, hM⟩ := hM.openE (p := i1690) [0, 1] rfl (by decide) rfl (j := 2) rfl hC1864 hx1862 (fun o h => io_ip_Option h)
                        refine RL.effs (E.stR (enc := (eI .u8)) (j := 3) (off := 0) (vs := [.int .u8 (IntKind.u8.wrap (xv1872 + 1))]) (x' := (IntKind.u8.wrap (xv1872 + 1))) hM rfl (fun _ => rfl) hx1874 sz5 rfl (addsR_eq [] rfl) rfl rfl (One.all rfl) rfl rfl) fun w1876 hM1 => ?_
                        clear hM
                        obtain ⟨hM, hn1880⟩ := hM1
                        obtain ⟨Z1881, hM⟩ := hM.closeE (u' := (T_ip_Option.mk xv1860.f_Kind (xv1860.f_Data.set (kv1839 : Int).toNat (IntKind.u8.wrap (xv1872 + 1))))) [2, 3] [0, 1] rfl (by decide) rfl (by decide) rfl hC1864 ⟨A1866, c1867, (by first | (rw [hn1880]; done) | (rw [hn1880]; rfl)), rfl⟩
                        have hq1883 : (lv1838).length = ((lv1838.set (i1690 : Int).toNat (T_ip_Option.mk xv1860.f_Kind (xv1860.f_Data.set (kv1839 : Int).toNat (IntKind.u8.wrap (xv1872 + 1)))))).length := (List.length_set ..).symm
                        replace hM := hM.rerow (i := 1) rfl hq1883
                        refine RL.reslot (t := 6) rfl hq1883 ?_
                        refine RL.reslot (t := 80) rfl hq1883 ?_
                        refine RL.nil ?_
                        refine KQ.blk_n ?_
                        refine KQ.thn hQ1857 ?_
                        clear hQ1857 Q1857
                        refine KC.region ?_
                        refine RL.val (O.move rfl) rfl ?_
                        refine RL.val (O.add rfl rfl) rfl ?_
                        refine RL.val (O.assign rfl) rfl ?_
                        refine RL.nil ?_
                        refine KQ.then_k ?_
                        exact fun a ha => ⟨k1842, Nat.lt_succ_self k1842, A1833, c1834, css1835, Z1881, (lv1838.set (i1690 : Int).toNat (T_ip_Option.mk xv1860.f_Kind (xv1860.f_Data.set (kv1839 : Int).toNat (IntKind.u8.wrap (xv1872 + 1))))), (IntKind.i64.wrap (kv1839 + 1)), ha.less (less_cons rfl (less_cons rfl (less_cons rfl (less_cons rfl (less_cons rfl (less_cons rfl (less_cons rfl less_nil))))))), hM, hF⟩
                      · rw [if_neg (ne_true hc)] at hF
                        refine KC.exit ?_
                        refine KQ.thx hQ1843 ?_
                        clear hQ1843 Q1843
                        refine KQ.then_x ?_
                        refine KQ.blk_x ?_
                        refine KQ.blk_n ?_
                        refine KQ.thn hQ1696 ?_
                        clear hQ1696 Q1696
                        refine KC.region ?_
                        refine RL.val (O.move rfl) rfl ?_
                        refine RL.val (O.add rfl rfl) rfl ?_
                        refine RL.val (O.assign rfl) rfl ?_
                        refine RL.nil ?_
                        refine KQ.then_k ?_
                        exact fun a ha => ⟨k1693, Nat.lt_succ_self k1693, A1833, c1834, css1835, Z1836, lv1838, (IntKind.i64.wrap (i1690 + 1)), ha.less (less_cons rfl (less_cons rfl (less_cons rfl (less_cons rfl (less_cons rfl (less_cons rfl less_nil)))))), hM, hF⟩
              · rw [if_neg (ne_true hc)] at hF
                refine KC.exit ?_
                refine KQ.thx hQ1694 ?_
                clear hQ1694 Q1694
                refine KQ.then_x ?_
                refine KQ.blk_x ?_
                refine KQ.blk_n ?_
                refine KQ.thn hQ1268 ?_
                clear hQ1268 Q1268
                replace hM := hM.pick [0] rfl (by decide)
                refine KC.region ?_
                refine RL.val (O.move rfl) rfl ?_
                refine RL.val (O.add rfl rfl) rfl ?_
                refine RL.val (O.assign rfl) rfl ?_
                refine RL.nil ?_
                refine KQ.then_k ?_
                exact fun a ha => ⟨k1265, Nat.lt_succ_self k1265, (IntKind.i64.wrap (t1262 + 1)), ha.less (less_cons rfl (less_cons rfl (less_cons rfl (less_cons rfl less_nil)))), hM, hF⟩
      · rw [if_neg (ne_true hc)] at hF
        refine KC.exit ?_
        refine KQ.thx hQ1266 ?_
        clear hQ1266 Q1266
        refine KQ.then_x ?_
        refine KQ.blk_x ?_
        refine KQ.thn hQ21 ?_
        clear hQ21 Q21
        refine KC.seqH fun Q1884 hQ1884 => ?_
        refine KC.region ?_
        refine obindE hF fun y1885 hx1886 hF => ?_
        refine RL.call Try.func8 bd8 rfl rfl (c_law05_works _ _ hx1886) fun v w1887 hv => ?_
        obtain ⟨rfl, hN1888⟩ := hv
        replace hM := hM.call0 hN1888
        refine RL.val (O.assign rfl) rfl ?_
        refine RL.nil ?_
        refine KQ.thn hQ1884 ?_
        clear hQ1884 Q1884
        refine KC.ret ?_
        have hE := Option.some.inj hF
        clear hF
        subst hE
        replace hM := hM.pick [] rfl (by decide)
        refine KQ.rets Try.results3 (RVs.cons (RV.tm rfl) RVs.nil) ?_
        exact ⟨_, rfl, rfl, hM⟩
set_option maxRecDepth 100000 in
set_option maxHeartbeats 40000000 in
theorem c_docs_Ip (w : World) (h1 : T_ip_Header) (A2 : Option Addr) (c3 : Nat) (hr4 : Rd w A2 c3 1 h1.f_Options.length (h1.f_Options.flatMap (eI .u8))) (r : T_ref05_Header) (hF : F_docs_Ip h1 = some r) :
    CallsR Try.prog 11 [.agg #[.int .u8 h1.f_TOS, .int .u16 h1.f_Total, .int .u16 h1.f_ID, .bool h1.f_DF, .bool h1.f_MF, .int .u16 h1.f_Frag, .int .u8 h1.f_TTL, .int .u8 h1.f_Proto, .int .u8 (List.getD h1.f_Src 0 0), .int .u8 (List.getD h1.f_Src 1 0), .int .u8 (List.getD h1.f_Src 2 0), .int .u8 (List.getD h1.f_Src 3 0), .int .u8 (List.getD h1.f_Dst 0 0), .int .u8 (List.getD h1.f_Dst 1 0), .int .u8 (List.getD h1.f_Dst 2 0), .int .u8 (List.getD h1.f_Dst 3 0), .slice A2 (h1.f_Options).length c3]] w (fun v w' => v = .agg #[.int .u8 r.f_TOS, .int .u16 r.f_Total, .int .u16 r.f_ID, .bool r.f_DF, .bool r.f_MF, .int .u16 r.f_Frag, .int .u8 r.f_TTL, .int .u8 r.f_Proto, .string r.f_Src, .string r.f_Dst, .string r.f_Options] ∧ Mem w [] w' []) := by
  refine calls_KC Try.func11 rfl Try.ntmps11 rfl ?_
  have hM := Mem.init w
  unfold F_docs_Ip at hF
  refine KC.seqH fun Q5 hQ5 => ?_
  refine KC.region ?_
  refine RL.eff (E.box (vs := [.int .u8 h1.f_TOS, .int .u16 h1.f_Total, .int .u16 h1.f_ID, .bool h1.f_DF, .bool h1.f_MF, .int .u16 h1.f_Frag, .int .u8 h1.f_TTL, .int .u8 h1.f_Proto, .int .u8 (List.getD h1.f_Src 0 0), .int .u8 (List.getD h1.f_Src 1 0), .int .u8 (List.getD h1.f_Src 2 0), .int .u8 (List.getD h1.f_Src 3 0), .int .u8 (List.getD h1.f_Dst 0 0), .int .u8 (List.getD h1.f_Dst 1 0), .int .u8 (List.getD h1.f_Dst 2 0), .int .u8 (List.getD h1.f_Dst 3 0), .slice A2 (h1.f_Options).length c3]) hM rfl rfl) rfl fun v w7 hv => ?_
  clear hM
  obtain ⟨g6, rfl, hM, hf⟩ := hv
  refine RL.eff (E.alloc hM ze41) rfl fun v w10 hv => ?_
  clear hM
  obtain ⟨g9, rfl, hM, hf⟩ := hv
  refine RL.nil ?_
  refine KQ.thn hQ5 ?_
  clear hQ5 Q5
  refine KC.seqH fun Q12 hQ12 => ?_
  replace hM := hM.drewN 1
  refine KC.draw [] [26] [26] [0, 2, 4, 6, 8, 10, 12, 14, 16, 17, 19, 20, 22] (.ofList [0, 1, 2, 3, 4, 5, 6, 7, 8, 9, 10, 11, 12, 13, 14, 15, 16, 17, 18, 19, 20, 21, 22, 23, 24, 25, 26]) moP (by kernel_rfl) ?_
  refine RD.p rfl rfl rfl rfl (fun w' => O.fldA fl39_0 (by decide) rfl) ?_
  refine RD.q rfl rfl rfl rfl (fun w' hf => O.load sc5 rfl (Cs.adds [0] ((hM.bx (i := 0) rfl).fut hf) rfl)) ?_
  refine RD.p rfl rfl rfl rfl (fun w' => O.fldA fl39_1 (by decide) rfl) ?_
  refine RD.q rfl rfl rfl rfl (fun w' hf => O.load sc36 rfl (Cs.adds [1] ((hM.bx (i := 0) rfl).fut hf) rfl)) ?_
  refine RD.p rfl rfl rfl rfl (fun w' => O.fldA fl39_2 (by decide) rfl) ?_
  refine RD.q rfl rfl rfl rfl (fun w' hf => O.load sc36 rfl (Cs.adds [2] ((hM.bx (i := 0) rfl).fut hf) rfl)) ?_
  refine RD.p rfl rfl rfl rfl (fun w' => O.fldA fl39_3 (by decide) rfl) ?_
  refine RD.q rfl rfl rfl rfl (fun w' hf => O.load sc4 rfl (Cs.adds [3] ((hM.bx (i := 0) rfl).fut hf) rfl)) ?_
  refine RD.p rfl rfl rfl rfl (fun w' => O.fldA fl39_4 (by decide) rfl) ?_
  refine RD.q rfl rfl rfl rfl (fun w' hf => O.load sc4 rfl (Cs.adds [4] ((hM.bx (i := 0) rfl).fut hf) rfl)) ?_
  refine RD.p rfl rfl rfl rfl (fun w' => O.fldA fl39_5 (by decide) rfl) ?_
  refine RD.q rfl rfl rfl rfl (fun w' hf => O.load sc36 rfl (Cs.adds [5] ((hM.bx (i := 0) rfl).fut hf) rfl)) ?_
  refine RD.p rfl rfl rfl rfl (fun w' => O.fldA fl39_6 (by decide) rfl) ?_
  refine RD.q rfl rfl rfl rfl (fun w' hf => O.load sc5 rfl (Cs.adds [6] ((hM.bx (i := 0) rfl).fut hf) rfl)) ?_
  refine RD.p rfl rfl rfl rfl (fun w' => O.fldA fl39_7 (by decide) rfl) ?_
  refine RD.q rfl rfl rfl rfl (fun w' hf => O.load sc5 rfl (Cs.adds [7] ((hM.bx (i := 0) rfl).fut hf) rfl)) ?_
  refine RD.p rfl rfl rfl rfl (fun w' => O.fldA fl39_8 (by decide) rfl) ?_
  have hr13 := Rd.arr (n := 4) (k := .u8) (xs := h1.f_Src) (Cs.addsN [8] (hM.bx (i := 0) rfl) rfl) rfl rfl
  refine RD.p rfl rfl rfl rfl (fun w' => O.slArr (xs := h1.f_Src) Try.underlying37 sz5 rfl rfl) ?_
  refine RD.q rfl rfl rfl rfl (fun w' hf => O.b2s sl22 Try.underlying5 Try.underlying9 rfl (hr13.fut hf)) ?_
  refine RD.p rfl rfl rfl rfl (fun w' => O.fldA fl39_9 (by decide) rfl) ?_
  have hr14 := Rd.arr (n := 4) (k := .u8) (xs := h1.f_Dst) (Cs.addsN [12] (hM.bx (i := 0) rfl) rfl) rfl rfl
  refine RD.p rfl rfl rfl rfl (fun w' => O.slArr (xs := h1.f_Dst) Try.underlying37 sz5 rfl rfl) ?_
  refine RD.q rfl rfl rfl rfl (fun w' hf => O.b2s sl22 Try.underlying5 Try.underlying9 rfl (hr14.fut hf)) ?_
  refine RD.p rfl rfl rfl rfl (fun w' => O.fldA fl39_10 (by decide) rfl) ?_
  refine RD.q rfl rfl rfl rfl (fun w' hf => O.load sc22 rfl (Cs.adds [16] ((hM.bx (i := 0) rfl).fut hf) rfl)) ?_
  refine RD.q rfl rfl rfl rfl (fun w' hf => O.b2s sl22 Try.underlying5 Try.underlying9 rfl ((hM.inp hr4 Off.nil).fut hf)) ?_
  refine RD.q rfl rfl rfl rfl (fun w' hf => O.bld (cs := [.int .u8 h1.f_TOS, .int .u16 h1.f_Total, .int .u16 h1.f_ID, .bool h1.f_DF, .bool h1.f_MF, .int .u16 h1.f_Frag, .int .u8 h1.f_TTL, .int .u8 h1.f_Proto, .string (strOfNums (arrL 4 h1.f_Src)), .string (strOfNums (arrL 4 h1.f_Dst)), .string (strOfNums h1.f_Options)]) bt41 rfl (by kernel_rfl)) ?_
  refine RD.meffs rfl rfl rfl (E.stB (j := 1) (off := 0) (vs := [.int .u8 h1.f_TOS, .int .u16 h1.f_Total, .int .u16 h1.f_ID, .bool h1.f_DF, .bool h1.f_MF, .int .u16 h1.f_Frag, .int .u8 h1.f_TTL, .int .u8 h1.f_Proto, .string (strOfNums (arrL 4 h1.f_Src)), .string (strOfNums (arrL 4 h1.f_Dst)), .string (strOfNums h1.f_Options)]) (cs' := [.int .u8 h1.f_TOS, .int .u16 h1.f_Total, .int .u16 h1.f_ID, .bool h1.f_DF, .bool h1.f_MF, .int .u16 h1.f_Frag, .int .u8 h1.f_TTL, .int .u8 h1.f_Proto, .string (strOfNums (arrL 4 h1.f_Src)), .string (strOfNums (arrL 4 h1.f_Dst)), .string (strOfNums h1.f_Options)]) hM rfl sz41 rfl (adds_eq [] rfl) rfl rfl (One.all rfl) rfl rfl) fun w15 hM1 => ?_
  clear hM
  have hM := hM1
  clear hM1
  have hr13 := Rd.arr (n := 4) (k := .u8) (xs := h1.f_Src) (Cs.addsN [8] (hM.bx (i := 0) rfl) rfl) rfl rfl
  have hr14 := Rd.arr (n := 4) (k := .u8) (xs := h1.f_Dst) (Cs.addsN [12] (hM.bx (i := 0) rfl) rfl) rfl rfl
  refine RD.nil ?_
  refine KQ.thn hQ12 ?_
  clear hQ12 Q12
  refine KC.ret ?_
  have hE := Option.some.inj hF
  clear hF
  subst hE
  have hb16 := hM.bx (i := 1) rfl
  replace hM := hM.pick [] rfl (by decide)
  refine KQ.rets Try.results11 (RVs.cons (RV.cN (cs := [.int .u8 h1.f_TOS, .int .u16 h1.f_Total, .int .u16 h1.f_ID, .bool h1.f_DF, .bool h1.f_MF, .int .u16 h1.f_Frag, .int .u8 h1.f_TTL, .int .u8 h1.f_Proto, .string (strOfNums (arrL 4 h1.f_Src)), .string (strOfNums (arrL 4 h1.f_Dst)), .string (strOfNums h1.f_Options)]) rfl ag41 hb16) RVs.nil) ?_
  exact ⟨_, rfl, rfl, hM⟩
set_option maxRecDepth 100000 in
set_option maxHeartbeats 40000000 in
theorem c_ref05_Right (w : World) (h1 : T_ref05_Header) (r : Bool) (hF : F_ref05_Right h1 = some r) :
    CallsR Try.prog 16 [.agg #[.int .u8 h1.f_TOS, .int .u16 h1.f_Total, .int .u16 h1.f_ID, .bool h1.f_DF, .bool h1.f_MF, .int .u16 h1.f_Frag, .int .u8 h1.f_TTL, .int .u8 h1.f_Proto, .string h1.f_Src, .string h1.f_Dst, .string h1.f_Options]] w (fun v w' => v = .bool r ∧ Mem w [] w' []) := by
  refine calls_KC Try.func16 rfl Try.ntmps16 rfl ?_
  have hM := Mem.init w
  unfold F_ref05_Right at hF
  refine KC.seqH fun Q2 hQ2 => ?_
  refine KC.region ?_
  refine RL.eff (E.box (vs := [.int .u8 h1.f_TOS, .int .u16 h1.f_Total, .int .u16 h1.f_ID, .bool h1.f_DF, .bool h1.f_MF, .int .u16 h1.f_Frag, .int .u8 h1.f_TTL, .int .u8 h1.f_Proto, .string h1.f_Src, .string h1.f_Dst, .string h1.f_Options]) hM rfl rfl) rfl fun v w4 hv => ?_
  clear hM
  obtain ⟨g3, rfl, hM, hf⟩ := hv
  refine RL.val (O.assign rfl) rfl ?_
  refine RL.nil ?_
  refine KQ.thn hQ2 ?_
  clear hQ2 Q2
  refine KC.seqH fun Q6 hQ6 => ?_
  refine KC.region ?_
  refine RL.val (O.fldA fl41_10 (by decide) rfl) rfl ?_
  refine RL.val (O.load sc9 rfl (Cs.adds [10] ((hM.bx (i := 0) rfl)) rfl)) rfl ?_
  refine RL.val (O.lens Try.underlying9 rfl) rfl ?_
  refine RL.val (O.assign rfl) rfl ?_
  refine RL.nil ?_
  refine KQ.thn hQ6 ?_
  clear hQ6 Q6
  refine KC.cut (fun a w8 => ∃ (t7 : Bool), Kn 27 [(2, .bool t7)] a ∧ Mem w [] w8 [] ∧ F_ref05_Right_j1 t7 = some r) ?_ ?_
  · refine KC.region ?_
    refine RL.val (O.fldA fl41_5 (by decide) rfl) rfl ?_
    refine RL.val (O.load sc36 rfl (Cs.adds [5] ((hM.bx (i := 0) rfl)) rfl)) rfl ?_
    refine RL.val (O.lss rfl rfl) rfl ?_
    refine RL.val (O.move rfl) rfl ?_
    refine RL.bcase (t := 10) rfl (fun hc => ?_) (fun hc => ?_)
    · rw [if_pos hc] at hF
      refine RL.gval rfl rfl (O.move rfl) rfl ?_
      refine RL.gval rfl rfl (O.rem rfl rfl (by decide)) rfl ?_
      refine RL.gval rfl rfl (O.eql rfl rfl) rfl ?_
      refine RL.val (O.pickt rfl rfl) rfl ?_
      refine RL.val (O.move rfl) rfl ?_
      refine RL.bcase (t := 15) rfl (fun hc => ?_) (fun hc => ?_)
      · rw [if_pos hc] at hF
        refine RL.gval rfl rfl (O.move rfl) rfl ?_
        refine RL.gval rfl rfl (O.leq rfl rfl) rfl ?_
        refine RL.val (O.pickt rfl rfl) rfl ?_
        refine RL.val (O.move rfl) rfl ?_
        refine RL.bcase (t := 19) rfl (fun hc => ?_) (fun hc => ?_)
        · rw [if_pos hc] at hF
          refine RL.gval rfl rfl (O.fldA fl41_1 (by decide) rfl) rfl ?_
          refine RL.gval rfl rfl (O.load sc36 rfl (Cs.adds [1] ((hM.bx (i := 0) rfl)) rfl)) rfl ?_
          refine RL.gval rfl rfl (O.conv un36 Try.underlying3 rfl) rfl ?_
          refine RL.gval rfl rfl (O.move rfl) rfl ?_
          refine RL.gval rfl rfl (O.add rfl rfl) rfl ?_
          refine RL.gval rfl rfl (O.geq rfl rfl) rfl ?_
          refine RL.val (O.pickt rfl rfl) rfl ?_
          refine RL.val (O.assign rfl) rfl ?_
          refine RL.nil ?_
          refine KQ.then_k ?_
          replace hM := hM.pick [] rfl (by decide)
          exact fun a ha => ⟨(decide ((IntKind.i64.wrap (20 + (h1.f_Options.size : Int))) ≤ (IntKind.i64.wrap h1.f_Total))), ha.less (less_cons rfl less_nil), hM, hF⟩
        · rw [if_neg (ne_true hc)] at hF
          refine RL.brun1 7 26 false (by kernel_rfl) ?_
          refine RL.val (O.assign rfl) rfl ?_
          refine RL.nil ?_
          refine KQ.then_k ?_
          replace hM := hM.pick [] rfl (by decide)
          exact fun a ha => ⟨false, ha.less (less_cons rfl less_nil), hM, hF⟩
      · rw [if_neg (ne_true hc)] at hF
        refine RL.brun1 11 26 false (by kernel_rfl) ?_
        refine RL.val (O.assign rfl) rfl ?_
        refine RL.nil ?_
        refine KQ.then_k ?_
        replace hM := hM.pick [] rfl (by decide)
        exact fun a ha => ⟨false, ha.less (less_cons rfl less_nil), hM, hF⟩
    · rw [if_neg (ne_true hc)] at hF
      refine RL.brun1 16 26 false (by kernel_rfl) ?_
      refine RL.val (O.assign rfl) rfl ?_
      refine RL.nil ?_
      refine KQ.then_k ?_
      replace hM := hM.pick [] rfl (by decide)
      exact fun a ha => ⟨false, ha.less (less_cons rfl less_nil), hM, hF⟩
  · rintro a w8 ⟨t7, ha, hM, hF⟩
    refine KC.app ha ?_
    clear ha
    unfold F_ref05_Right_j1 at hF
    refine KC.ret ?_
    have hE := Option.some.inj hF
    clear hF
    subst hE
    refine KQ.rets Try.results16 (RVs.cons (RV.tm rfl) RVs.nil) ?_
    exact ⟨_, rfl, rfl, hM⟩
end Go.Proofs.Ytjfdfjmnajjjaaa
