/- Printed by a program of this claim: each call returns what the plain function of its name gives. -/
import Derived.Test.YtjfdfjmnajjjaaaW1
import Derived.Test.YtjfdfjmnajjjaaaW6
import Derived.Test.YtjfdfjmnajjjaaaW7
set_option linter.unusedVariables false
namespace Go.Proofs.Ytjfdfjmnajjjaaa
open Go Go.Ox Go.RowKit
set_option maxRecDepth 100000 in
set_option maxHeartbeats 40000000 in
theorem c_law05_IpOptions (w : World) (A2 : Option Addr) (c3 : Nat) (b1 : List Int) (hr4 : Rd w A2 c3 1 b1.length (b1.flatMap (eI .u8))) (r : Bool) (hF : F_law05_IpOptions b1 = some r) :
    CallsR Try.prog 3 [.slice A2 (b1).length c3] w (fun v w' => v = .bool r ∧ Mem w [] w' []) := by
  refine calls_KC Try.func3 rfl Try.ntmps3 rfl ?_
  have hM := Mem.init w
  unfold F_law05_IpOptions at hF
  refine KC.seq ?_
  refine KC.region ?_
  refine RL.val (O.assign rfl) rfl ?_
  refine RL.nil ?_
  refine KQ.then_n ?_
  refine KC.seq ?_
  refine KC.seq ?_
  refine KC.region ?_
  refine RL.val (O.move rfl) rfl ?_
  refine RL.val (O.len sl22 rfl) rfl ?_
  refine RL.val (O.gtr rfl rfl) rfl ?_
  refine RL.nil ?_
  refine KQ.then_n ?_
  refine KC.cond rfl (fun hc => ?_) (fun hc => ?_)
  · rw [if_pos hc] at hF
    refine KC.seq ?_
    refine KC.region ?_
    refine obindE hF fun y5 hx6 hF => ?_
    refine RL.call Try.func8 bd8 rfl rfl (c_law05_works _ _ hx6) fun v w7 hv => ?_
    obtain ⟨rfl, hN8⟩ := hv
    replace hM := hM.call0 hN8
    refine RL.val (O.assign rfl) rfl ?_
    refine RL.nil ?_
    refine KQ.then_n ?_
    refine KC.ret ?_
    refine KQ.then_r ?_
    have hE := Option.some.inj hF
    clear hF
    subst hE
    refine KQ.rets Try.results3 (RVs.cons (RV.tm rfl) RVs.nil) ?_
    exact ⟨_, rfl, rfl, hM⟩
  · rw [if_neg (ne_true hc)] at hF
    refine KC.skip ?_
    refine KQ.then_n ?_
    refine KC.seq ?_
    refine KC.region ?_
    refine RL.val (O.move rfl) rfl ?_
    refine RL.val (O.b2s sl22 Try.underlying5 Try.underlying9 rfl ((hM.inp hr4 Off.nil))) rfl ?_
    refine obindE hF fun y9 hx10 hF => ?_
    refine RL.call Try.func9 bd9 rfl rfl (c_ref05_Options _ (strOfNums b1) _ hx10) fun v w11 hv => ?_
    obtain ⟨A13, c14, rfl, hN12⟩ := hv
    replace hM := hM.call hN12
    refine RL.val (O.move rfl) rfl ?_
    refine RL.val (O.ext rfl rfl) rfl ?_
    refine RL.val (O.ext rfl rfl) rfl ?_
    refine RL.val (O.assign rfl) rfl ?_
    refine RL.val (O.assign rfl) rfl ?_
    refine RL.nil ?_
    refine KQ.then_n ?_
    refine KC.seq ?_
    refine KC.seq ?_
    refine KC.region ?_
    refine RL.val (O.assign rfl) rfl ?_
    refine RL.nil ?_
    refine KQ.then_n ?_
    refine KC.block ?_
    refine KC.loop (fun k1154 a w1152 => ∃ (t1151 : Int), Kn 91 [(0, .slice A2 (b1).length c3), (3, .slice A13 (y9.1).length c14), (4, .int .i64 y9.2), (5, .int .i64 t1151)] a ∧ Mem w [] w1152 [.row A13 c14 34 2 (y9.1).length ((y9.1).flatMap e_ref05_Option)] ∧ F_law05_IpOptions_L1 b1 y9 k1154 t1151 = some r) ?_ ?_
    · exact fun a ha => ⟨fuel0, 0, ha.less (less_cons rfl (less_cons rfl (less_cons rfl (less_cons rfl less_nil)))), hM, hF⟩
    · rintro k1154 a w1152 ⟨t1151, ha, hM, hF⟩
      refine KC.app ha ?_
      clear ha
      cases k1154 with
      | zero => exact (none_some hF).elim
      | succ k1154 =>
      have hF : F_law05_IpOptions_l1 (F_law05_IpOptions_L1 b1 y9 k1154) b1 y9 t1151 = some r := hF
      unfold F_law05_IpOptions_l1 at hF
      refine KC.seq ?_
      refine KC.seq ?_
      refine KC.region ?_
      refine RL.val (O.move rfl) rfl ?_
      refine RL.val (O.lss rfl rfl) rfl ?_
      refine RL.nil ?_
      refine KQ.then_n ?_
      refine KC.cond rfl (fun hc => ?_) (fun hc => ?_)
      · rw [if_pos hc] at hF
        refine KC.skip ?_
        refine KQ.then_n ?_
        refine KC.seq ?_
        refine KC.block ?_
        refine KC.seq ?_
        refine KC.region ?_
        refine RL.val (O.move rfl) rfl ?_
        refine obindE hF fun y1155 hx1156 hF => ?_
        refine RL.call Try.func10 bd10 rfl rfl (c_ip_Options _ _ _ b1 (hM.inp hr4 Off.nil) _ hx1156) fun v w1157 hv => ?_
        obtain ⟨A1159, c1160, css1162, Z1163, rfl, hN1158⟩ := hv
        replace hM := hM.call hN1158
        refine RL.val (O.move rfl) rfl ?_
        refine RL.val (O.ext rfl rfl) rfl ?_
        refine RL.val (O.ext rfl rfl) rfl ?_
        refine RL.val (O.assign rfl) rfl ?_
        refine RL.val (O.assign rfl) rfl ?_
        refine RL.nil ?_
        refine KQ.then_n ?_
        refine KC.seq ?_
        refine KC.cut (fun a w1174 => ∃ (A1167 : Option Addr) (c1168 : Nat) (css1169 : List (List Value)) (Z1170 : List Nat) (lv1172 : List T_ip_Option) (t1173 : Bool), Kn 91 [(0, .slice A2 (b1).length c3), (3, .slice A13 (y9.1).length c14), (4, .int .i64 y9.2), (5, .int .i64 t1151), (6, .slice A1167 (lv1172).length c1168), (38, .bool t1173)] a ∧ Mem w [] w1174 [.row A13 c14 34 2 (y9.1).length ((y9.1).flatMap e_ref05_Option), .row A1167 c1168 32 2 (lv1172).length (css1169).flatten, .res Z1170 (Els RO_ip_Option 2 lv1172 css1169 Z1170)] ∧ F_law05_IpOptions_j1 y9 t1151 (F_law05_IpOptions_L1 b1 y9 k1154) lv1172 t1173 = some r) ?_ ?_
        · refine KC.region ?_
          refine RL.val (O.move rfl) rfl ?_
          refine RL.val (O.move rfl) rfl ?_
          refine RL.val (O.neq rfl rfl) rfl ?_
          refine RL.val (O.move rfl) rfl ?_
          refine RL.bcase (t := 32) rfl (fun hc => ?_) (fun hc => ?_)
          · rw [if_pos hc] at hF
            refine RL.gskip rfl rfl rfl rfl ?_
            refine RL.gskip rfl rfl rfl rfl ?_
            refine RL.gskip rfl rfl rfl rfl ?_
            refine RL.gskip rfl rfl rfl rfl ?_
            refine RL.gskip rfl rfl rfl rfl ?_
            refine RL.val (O.pickt rfl rfl) rfl ?_
            refine RL.nil ?_
            refine KQ.then_k ?_
            exact fun a ha => ⟨A1159, c1160, css1162, Z1163, y1155.1, true, ha.less (less_cons rfl (less_cons rfl (less_cons rfl (less_cons rfl (less_cons rfl (less_cons rfl less_nil)))))), hM, hF⟩
          · rw [if_neg (ne_true hc)] at hF
            refine RL.gval rfl rfl (O.move rfl) rfl ?_
            refine RL.gval rfl rfl (O.len sl28 rfl) rfl ?_
            refine RL.gval rfl rfl (O.move rfl) rfl ?_
            refine RL.gval rfl rfl (O.len sl24 rfl) rfl ?_
            refine RL.gval rfl rfl (O.neq rfl rfl) rfl ?_
            refine RL.val (O.pickf rfl rfl) rfl ?_
            refine RL.nil ?_
            refine KQ.then_k ?_
            exact fun a ha => ⟨A1159, c1160, css1162, Z1163, y1155.1, ((y1155.1.length : Int) != (y9.1.length : Int)), ha.less (less_cons rfl (less_cons rfl (less_cons rfl (less_cons rfl (less_cons rfl (less_cons rfl less_nil)))))), hM, hF⟩
        · rintro a w1174 ⟨A1167, c1168, css1169, Z1170, lv1172, t1173, ha, hM, hF⟩
          refine KC.app ha ?_
          clear ha
          unfold F_law05_IpOptions_j1 at hF
          refine KC.cond rfl (fun hc => ?_) (fun hc => ?_)
          · rw [if_pos hc] at hF
            refine KC.seq ?_
            refine KC.region ?_
            refine RL.val (O.assign rfl) rfl ?_
            refine RL.nil ?_
            refine KQ.then_n ?_
            refine KC.ret ?_
            refine KQ.then_r ?_
            refine KQ.blk_r ?_
            refine KQ.then_r ?_
            refine KQ.then_r ?_
            refine KQ.blk_r ?_
            refine KQ.then_r ?_
            have hE := Option.some.inj hF
            clear hF
            subst hE
            replace hM := hM.pick [] rfl (by decide)
            refine KQ.rets Try.results3 (RVs.cons (RV.tm rfl) RVs.nil) ?_
            exact ⟨_, rfl, rfl, hM⟩
          · rw [if_neg (ne_true hc)] at hF
            refine KC.skip ?_
            refine KQ.then_n ?_
            refine KC.seq ?_
            refine KC.region ?_
            refine RL.val (O.assign rfl) rfl ?_
            refine RL.nil ?_
            refine KQ.then_n ?_
            refine KC.block ?_
            refine KC.loop (fun k1545 a w1543 => ∃ (A1536 : Option Addr) (c1537 : Nat) (css1538 : List (List Value)) (Z1539 : List Nat) (lv1541 : List T_ip_Option) (i1542 : Int), Kn 91 [(0, .slice A2 (b1).length c3), (3, .slice A13 (y9.1).length c14), (4, .int .i64 y9.2), (5, .int .i64 t1151), (6, .slice A1536 (lv1541).length c1537), (8, .int .i64 i1542)] a ∧ Mem w [] w1543 [.row A13 c14 34 2 (y9.1).length ((y9.1).flatMap e_ref05_Option), .row A1536 c1537 32 2 (lv1541).length (css1538).flatten, .res Z1539 (Els RO_ip_Option 2 lv1541 css1538 Z1539)] ∧ F_law05_IpOptions_L2 y9 t1151 (F_law05_IpOptions_L1 b1 y9 k1154) k1545 lv1541 i1542 = some r) ?_ ?_
            · exact fun a ha => ⟨fuel0, A1167, c1168, css1169, Z1170, lv1172, 0, ha.less (less_cons rfl (less_cons rfl (less_cons rfl (less_cons rfl (less_cons rfl (less_cons rfl less_nil)))))), hM, hF⟩
            · rintro k1545 a w1543 ⟨A1536, c1537, css1538, Z1539, lv1541, i1542, ha, hM, hF⟩
              refine KC.app ha ?_
              clear ha
              cases k1545 with
              | zero => exact (none_some hF).elim
              | succ k1545 =>
              have hF : F_law05_IpOptions_l2 (F_law05_IpOptions_L2 y9 t1151 (F_law05_IpOptions_L1 b1 y9 k1154) k1545) y9 t1151 (F_law05_IpOptions_L1 b1 y9 k1154) lv1541 i1542 = some r := hF
              unfold F_law05_IpOptions_l2 at hF
              refine KC.seq ?_
              refine KC.seq ?_
              refine KC.region ?_
              refine RL.val (O.move rfl) rfl ?_
              refine RL.val (O.move rfl) rfl ?_
              refine RL.val (O.len sl28 rfl) rfl ?_
              refine RL.val (O.lss rfl rfl) rfl ?_
              refine RL.nil ?_
              refine KQ.then_n ?_
              refine KC.cond rfl (fun hc => ?_) (fun hc => ?_)
              · rw [if_pos hc] at hF
                refine KC.skip ?_
                refine KQ.then_n ?_
                refine KC.seq ?_
                refine KC.block ?_
                refine KC.seq ?_
                refine KC.cut (fun a w1585 => ∃ (A1578 : Option Addr) (c1579 : Nat) (css1580 : List (List Value)) (Z1581 : List Nat) (lv1583 : List T_ip_Option) (t1584 : Bool), Kn 91 [(0, .slice A2 (b1).length c3), (3, .slice A13 (y9.1).length c14), (4, .int .i64 y9.2), (5, .int .i64 t1151), (6, .slice A1578 (lv1583).length c1579), (8, .int .i64 i1542), (69, .bool t1584)] a ∧ Mem w [] w1585 [.row A13 c14 34 2 (y9.1).length ((y9.1).flatMap e_ref05_Option), .row A1578 c1579 32 2 (lv1583).length (css1580).flatten, .res Z1581 (Els RO_ip_Option 2 lv1583 css1580 Z1581)] ∧ F_law05_IpOptions_j2 i1542 (F_law05_IpOptions_L2 y9 t1151 (F_law05_IpOptions_L1 b1 y9 k1154) k1545) lv1583 t1584 = some r) ?_ ?_
                · replace hM := hM.drewN 1
                  refine KC.draw [] [] [] [0, 1, 3, 5, 6, 8, 10, 11, 12, 13, 15, 18, 19, 21, 23, 24] (.ofList [0, 1, 2, 3, 4, 5, 6, 7, 8, 9, 10, 11, 12, 13, 14, 15, 16, 17, 18, 19, 20, 21, 22, 23, 24]) moP (by kernel_rfl) ?_
                  refine RD.p rfl rfl rfl rfl (fun w' => O.move rfl) ?_
                  refine RD.p rfl rfl rfl rfl (fun w' => O.move rfl) ?_
                  refine obindE hF fun xv1548 hx1550 hF => ?_
                  obtain ⟨cs1553, hA1549, hC1552, hR1551⟩ := hM.atD (i := 1) (j := 2) uo_ip_Option rfl rfl hx1550
                  obtain ⟨A1554, c1555, rfl, hr1556, ho1557⟩ := hR1551
                  refine RD.q rfl rfl rfl rfl (fun w' hf => O.idxA sl28 (hA1549.fut hf) rfl rfl) ?_
                  refine RD.p rfl rfl rfl rfl (fun w' => O.fldA fl32_0 (by decide) rfl) ?_
                  refine RD.q rfl rfl rfl rfl (fun w' hf => O.load sc5 rfl (Cs.adds [0] (hA1549.fut hf).cells rfl)) ?_
                  refine RD.p rfl rfl rfl rfl (fun w' => O.move rfl) ?_
                  refine RD.p rfl rfl rfl rfl (fun w' => O.move rfl) ?_
                  refine obindE hF fun xv1560 hx1559 hF => ?_
                  have hA1558 := Rd.atN (f := e_ref05_Option) (s := 2) (fun _ => rfl) (by decide) (hM.rd (i := 0) rfl) hx1559
                  refine RD.q rfl rfl rfl rfl (fun w' hf => O.idxA sl24 (hA1558.fut hf) rfl rfl) ?_
                  refine RD.p rfl rfl rfl rfl (fun w' => O.fldA fl34_0 (by decide) rfl) ?_
                  refine RD.q rfl rfl rfl rfl (fun w' hf => O.load sc5 rfl (Cs.adds [0] (hA1558.fut hf).cells rfl)) ?_
                  refine RD.p rfl rfl rfl rfl (fun w' => O.neq rfl rfl) ?_
                  refine RD.p rfl rfl rfl rfl (fun w' => O.move rfl) ?_
                  refine RD.bcase (t := 56) rfl (fun hc => ?_) (fun hc => ?_)
                  · rw [if_pos hc] at hF
                    refine RD.gskip rfl rfl rfl rfl rfl ?_
                    refine RD.gskip rfl rfl rfl rfl rfl ?_
                    refine RD.gskip rfl rfl rfl rfl rfl ?_
                    refine RD.gskip rfl rfl rfl rfl rfl ?_
                    refine RD.gskip rfl rfl rfl rfl rfl ?_
                    refine RD.gskip rfl rfl rfl rfl rfl ?_
                    refine RD.gskip rfl rfl rfl rfl rfl ?_
                    refine RD.gskip rfl rfl rfl rfl rfl ?_
                    refine RD.gskip rfl rfl rfl rfl rfl ?_
                    refine RD.gskip rfl rfl rfl rfl rfl ?_
                    refine RD.gskip rfl rfl rfl rfl rfl ?_
                    refine RD.gskip rfl rfl rfl rfl rfl ?_
                    refine RD.p rfl rfl rfl rfl (fun w' => O.pickt rfl rfl) ?_
                    refine RD.nil ?_
                    refine KQ.then_k ?_
                    exact fun a ha => ⟨A1536, c1537, css1538, Z1539, lv1541, true, ha.less (less_cons rfl (less_cons rfl (less_cons rfl (less_cons rfl (less_cons rfl (less_cons rfl (less_cons rfl less_nil))))))), hM, hF⟩
                  · rw [if_neg (ne_true hc)] at hF
                    refine RD.gp rfl rfl rfl rfl rfl rfl (fun w' => O.move rfl) ?_
                    refine RD.gp rfl rfl rfl rfl rfl rfl (fun w' => O.move rfl) ?_
                    refine obindE hF fun xv1563 hx1565 hF => ?_
                    obtain ⟨cs1568, hA1564, hC1567, hR1566⟩ := hM.atD (i := 1) (j := 2) uo_ip_Option rfl rfl hx1565
                    obtain ⟨A1569, c1570, rfl, hr1571, ho1572⟩ := hR1566
                    refine RD.gq rfl rfl rfl rfl rfl rfl (fun w' hf => O.idxA sl28 (hA1564.fut hf) rfl rfl) ?_
                    refine RD.gp rfl rfl rfl rfl rfl rfl (fun w' => O.fldA fl32_1 (by decide) rfl) ?_
                    refine RD.gq rfl rfl rfl rfl rfl rfl (fun w' hf => O.load sc22 rfl (Cs.adds [1] (hA1564.fut hf).cells rfl)) ?_
                    refine RD.gq rfl rfl rfl rfl rfl rfl (fun w' hf => O.b2s sl22 Try.underlying5 Try.underlying9 rfl (hr1571.fut hf)) ?_
                    refine RD.gp rfl rfl rfl rfl rfl rfl (fun w' => O.move rfl) ?_
                    refine RD.gp rfl rfl rfl rfl rfl rfl (fun w' => O.move rfl) ?_
                    refine obindE hF fun xv1575 hx1574 hF => ?_
                    have hA1573 := Rd.atN (f := e_ref05_Option) (s := 2) (fun _ => rfl) (by decide) (hM.rd (i := 0) rfl) hx1574
                    refine RD.gq rfl rfl rfl rfl rfl rfl (fun w' hf => O.idxA sl24 (hA1573.fut hf) rfl rfl) ?_
                    refine RD.gp rfl rfl rfl rfl rfl rfl (fun w' => O.fldA fl34_1 (by decide) rfl) ?_
                    refine RD.gq rfl rfl rfl rfl rfl rfl (fun w' hf => O.load sc9 rfl (Cs.adds [1] (hA1573.fut hf).cells rfl)) ?_
                    refine RD.gp rfl rfl rfl rfl rfl rfl (fun w' => O.strne rfl rfl) ?_
                    refine RD.p rfl rfl rfl rfl (fun w' => O.pickf rfl rfl) ?_
                    refine RD.nil ?_
                    refine KQ.then_k ?_
                    exact fun a ha => ⟨A1536, c1537, css1538, Z1539, lv1541, (!((strOfNums xv1563.f_Data).toList == xv1575.f_Data.toList)), ha.less (less_cons rfl (less_cons rfl (less_cons rfl (less_cons rfl (less_cons rfl (less_cons rfl (less_cons rfl less_nil))))))), hM, hF⟩
                · rintro a w1585 ⟨A1578, c1579, css1580, Z1581, lv1583, t1584, ha, hM, hF⟩
                  refine KC.app ha ?_
                  clear ha
                  unfold F_law05_IpOptions_j2 at hF
                  refine KC.cond rfl (fun hc => ?_) (fun hc => ?_)
                  · rw [if_pos hc] at hF
                    refine KC.seq ?_
                    refine KC.region ?_
                    refine RL.val (O.assign rfl) rfl ?_
                    refine RL.nil ?_
                    refine KQ.then_n ?_
                    refine KC.ret ?_
                    refine KQ.then_r ?_
                    refine KQ.blk_r ?_
                    refine KQ.then_r ?_
                    refine KQ.then_r ?_
                    refine KQ.blk_r ?_
                    refine KQ.blk_r ?_
                    refine KQ.then_r ?_
                    refine KQ.then_r ?_
                    refine KQ.blk_r ?_
                    refine KQ.then_r ?_
                    have hE := Option.some.inj hF
                    clear hF
                    subst hE
                    replace hM := hM.pick [] rfl (by decide)
                    refine KQ.rets Try.results3 (RVs.cons (RV.tm rfl) RVs.nil) ?_
                    exact ⟨_, rfl, rfl, hM⟩
                  · rw [if_neg (ne_true hc)] at hF
                    refine KC.skip ?_
                    refine KQ.then_n ?_
                    refine KC.seq ?_
                    refine KC.region ?_
                    refine RL.val (O.assign rfl) rfl ?_
                    refine RL.nil ?_
                    refine KQ.then_n ?_
                    refine KC.block ?_
                    refine KC.loop (fun k1682 a w1680 => ∃ (A1673 : Option Addr) (c1674 : Nat) (css1675 : List (List Value)) (Z1676 : List Nat) (lv1678 : List T_ip_Option) (kv1679 : Int), Kn 91 [(0, .slice A2 (b1).length c3), (3, .slice A13 (y9.1).length c14), (4, .int .i64 y9.2), (5, .int .i64 t1151), (6, .slice A1673 (lv1678).length c1674), (8, .int .i64 i1542), (9, .int .i64 kv1679)] a ∧ Mem w [] w1680 [.row A13 c14 34 2 (y9.1).length ((y9.1).flatMap e_ref05_Option), .row A1673 c1674 32 2 (lv1678).length (css1675).flatten, .res Z1676 (Els RO_ip_Option 2 lv1678 css1675 Z1676)] ∧ F_law05_IpOptions_L3 i1542 (F_law05_IpOptions_L2 y9 t1151 (F_law05_IpOptions_L1 b1 y9 k1154) k1545) k1682 lv1678 kv1679 = some r) ?_ ?_
                    · exact fun a ha => ⟨fuel0, A1578, c1579, css1580, Z1581, lv1583, 0, ha.less (less_cons rfl (less_cons rfl (less_cons rfl (less_cons rfl (less_cons rfl (less_cons rfl (less_cons rfl less_nil))))))), hM, hF⟩
                    · rintro k1682 a w1680 ⟨A1673, c1674, css1675, Z1676, lv1678, kv1679, ha, hM, hF⟩
                      refine KC.app ha ?_
                      clear ha
                      cases k1682 with
                      | zero => exact (none_some hF).elim
                      | succ k1682 =>
                      have hF : F_law05_IpOptions_l3 (F_law05_IpOptions_L3 i1542 (F_law05_IpOptions_L2 y9 t1151 (F_law05_IpOptions_L1 b1 y9 k1154) k1545) k1682) i1542 (F_law05_IpOptions_L2 y9 t1151 (F_law05_IpOptions_L1 b1 y9 k1154) k1545) lv1678 kv1679 = some r := hF
                      unfold F_law05_IpOptions_l3 at hF
                      refine KC.seq ?_
                      refine KC.seq ?_
                      refine KC.region ?_
                      refine RL.val (O.move rfl) rfl ?_
                      refine RL.val (O.move rfl) rfl ?_
                      refine RL.val (O.move rfl) rfl ?_
                      refine obindE hF fun xv1685 hx1687 hF => ?_
                      obtain ⟨cs1690, hA1686, hC1689, hR1688⟩ := hM.atD (i := 1) (j := 2) uo_ip_Option rfl rfl hx1687
                      obtain ⟨A1691, c1692, rfl, hr1693, ho1694⟩ := hR1688
                      refine RL.val (O.idxA sl28 (hA1686) rfl rfl) rfl ?_
                      refine RL.val (O.fldA fl32_1 (by decide) rfl) rfl ?_
                      refine RL.val (O.load sc22 rfl (Cs.adds [1] (hA1686).cells rfl)) rfl ?_
                      refine RL.val (O.len sl22 rfl) rfl ?_
                      refine RL.val (O.lss rfl rfl) rfl ?_
                      refine RL.nil ?_
                      refine KQ.then_n ?_
                      refine KC.cond rfl (fun hc => ?_) (fun hc => ?_)
                      · rw [if_pos hc] at hF
                        refine KC.skip ?_
                        refine KQ.then_n ?_
                        refine KC.seq ?_
                        refine KC.block ?_
                        refine KC.region ?_
                        refine RL.val (O.move rfl) rfl ?_
                        refine RL.val (O.move rfl) rfl ?_
                        refine obindE hF fun xv1697 hx1699 hF => ?_
                        obtain ⟨cs1702, hA1698, hC1701, hR1700⟩ := hM.atD (i := 1) (j := 2) uo_ip_Option rfl rfl hx1699
                        obtain ⟨A1703, c1704, rfl, hr1705, ho1706⟩ := hR1700
                        refine RL.val (O.idxA sl28 (hA1698) rfl rfl) rfl ?_
                        refine RL.val (O.fldA fl32_1 (by decide) rfl) rfl ?_
                        refine RL.val (O.load sc22 rfl (Cs.adds [1] (hA1698).cells rfl)) rfl ?_
                        refine RL.val (O.move rfl) rfl ?_
                        refine obindE hF fun xv1709 hx1708 hF => ?_
                        have hA1707 := Rd.atN (f := (eI .u8)) (s := 1) (fun _ => rfl) (by decide) hr1705 hx1708
                        refine RL.val (O.idxA sl22 (hA1707) rfl rfl) rfl ?_
                        refine RL.val (O.load sc5 rfl (hA1707).cells.at0) rfl ?_
                        refine RL.val (O.add rfl rfl) rfl ?_
                        refine obindE hF fun xv1712 hx1711 hF => ?_
                        have hA1710 := Rd.atN (f := (eI .u8)) (s := 1) (fun _ => rfl) (by decide) hr1705 hx1711
                        refine RL.val (O.idxA sl22 (hA1710) rfl rfl) rfl ?_
                        obtain ⟨Z1714, hM⟩ := hM.openE (p := i1542) [0, 1] rfl (by decide) rfl (j := 2) rfl hC1701 hx1699 (fun o h => io_ip_Option h)
                        refine RL.effs (E.stR (enc := (eI .u8)) (j := 3) (off := 0) (vs := [.int .u8 (IntKind.u8.wrap (xv1709 + 1))]) (x' := (IntKind.u8.wrap (xv1709 + 1))) hM rfl (fun _ => rfl) hx1711 sz5 rfl (addsR_eq [] rfl) rfl rfl (One.all rfl) rfl rfl) fun w1713 hM1 => ?_
                        clear hM
                        obtain ⟨hM, hn1717⟩ := hM1
                        obtain ⟨Z1718, hM⟩ := hM.closeE (u' := (T_ip_Option.mk xv1697.f_Kind (xv1697.f_Data.set (kv1679 : Int).toNat (IntKind.u8.wrap (xv1709 + 1))))) [2, 3] [0, 1] rfl (by decide) rfl (by decide) rfl hC1701 ⟨A1703, c1704, (by first | (rw [hn1717]; done) | (rw [hn1717]; rfl)), rfl⟩
                        have hq1720 : (lv1678).length = ((lv1678.set (i1542 : Int).toNat (T_ip_Option.mk xv1697.f_Kind (xv1697.f_Data.set (kv1679 : Int).toNat (IntKind.u8.wrap (xv1709 + 1)))))).length := (List.length_set ..).symm
                        replace hM := hM.rerow (i := 1) rfl hq1720
                        refine RL.reslot (t := 6) rfl hq1720 ?_
                        refine RL.reslot (t := 80) rfl hq1720 ?_
                        refine RL.nil ?_
                        refine KQ.blk_n ?_
                        refine KQ.then_n ?_
                        refine KC.region ?_
                        refine RL.val (O.move rfl) rfl ?_
                        refine RL.val (O.add rfl rfl) rfl ?_
                        refine RL.val (O.assign rfl) rfl ?_
                        refine RL.nil ?_
                        refine KQ.then_k ?_
                        exact fun a ha => ⟨k1682, Nat.lt_succ_self k1682, A1673, c1674, css1675, Z1718, (lv1678.set (i1542 : Int).toNat (T_ip_Option.mk xv1697.f_Kind (xv1697.f_Data.set (kv1679 : Int).toNat (IntKind.u8.wrap (xv1709 + 1))))), (IntKind.i64.wrap (kv1679 + 1)), ha.less (less_cons rfl (less_cons rfl (less_cons rfl (less_cons rfl (less_cons rfl (less_cons rfl (less_cons rfl less_nil))))))), hM, hF⟩
                      · rw [if_neg (ne_true hc)] at hF
                        refine KC.exit ?_
                        refine KQ.then_x ?_
                        refine KQ.then_x ?_
                        refine KQ.blk_x ?_
                        refine KQ.blk_n ?_
                        refine KQ.then_n ?_
                        refine KC.region ?_
                        refine RL.val (O.move rfl) rfl ?_
                        refine RL.val (O.add rfl rfl) rfl ?_
                        refine RL.val (O.assign rfl) rfl ?_
                        refine RL.nil ?_
                        refine KQ.then_k ?_
                        exact fun a ha => ⟨k1545, Nat.lt_succ_self k1545, A1673, c1674, css1675, Z1676, lv1678, (IntKind.i64.wrap (i1542 + 1)), ha.less (less_cons rfl (less_cons rfl (less_cons rfl (less_cons rfl (less_cons rfl (less_cons rfl less_nil)))))), hM, hF⟩
              · rw [if_neg (ne_true hc)] at hF
                refine KC.exit ?_
                refine KQ.then_x ?_
                refine KQ.then_x ?_
                refine KQ.blk_x ?_
                refine KQ.blk_n ?_
                refine KQ.then_n ?_
                replace hM := hM.pick [0] rfl (by decide)
                refine KC.region ?_
                refine RL.val (O.move rfl) rfl ?_
                refine RL.val (O.add rfl rfl) rfl ?_
                refine RL.val (O.assign rfl) rfl ?_
                refine RL.nil ?_
                refine KQ.then_k ?_
                exact fun a ha => ⟨k1154, Nat.lt_succ_self k1154, (IntKind.i64.wrap (t1151 + 1)), ha.less (less_cons rfl (less_cons rfl (less_cons rfl (less_cons rfl less_nil)))), hM, hF⟩
      · rw [if_neg (ne_true hc)] at hF
        refine KC.exit ?_
        refine KQ.then_x ?_
        refine KQ.then_x ?_
        refine KQ.blk_x ?_
        refine KQ.then_n ?_
        refine KC.seq ?_
        refine KC.region ?_
        refine obindE hF fun y1721 hx1722 hF => ?_
        refine RL.call Try.func8 bd8 rfl rfl (c_law05_works _ _ hx1722) fun v w1723 hv => ?_
        obtain ⟨rfl, hN1724⟩ := hv
        replace hM := hM.call0 hN1724
        refine RL.val (O.assign rfl) rfl ?_
        refine RL.nil ?_
        refine KQ.then_n ?_
        refine KC.ret ?_
        have hE := Option.some.inj hF
        clear hF
        subst hE
        replace hM := hM.pick [] rfl (by decide)
        refine KQ.rets Try.results3 (RVs.cons (RV.tm rfl) RVs.nil) ?_
        exact ⟨_, rfl, rfl, hM⟩
set_option maxRecDepth 100000 in
set_option maxHeartbeats 40000000 in
theorem c_docs_Ip (w : World) (h1 : T_ip_Header) (A2 : Option Addr) (c3 : Nat) (hr4 : Rd w A2 c3 1 h1.f_Options.length (h1.f_Options.flatMap (eI .u8))) (r : T_ref05_Header) (hF : F_docs_Ip h1 = some r) :
    CallsR Try.prog 11 [.agg #[.int .u8 h1.f_TOS, .int .u16 h1.f_Total, .int .u16 h1.f_ID, .bool h1.f_DF, .bool h1.f_MF, .int .u16 h1.f_Frag, .int .u8 h1.f_TTL, .int .u8 h1.f_Proto, .int .u8 (List.getD h1.f_Src 0 0), .int .u8 (List.getD h1.f_Src 1 0), .int .u8 (List.getD h1.f_Src 2 0), .int .u8 (List.getD h1.f_Src 3 0), .int .u8 (List.getD h1.f_Dst 0 0), .int .u8 (List.getD h1.f_Dst 1 0), .int .u8 (List.getD h1.f_Dst 2 0), .int .u8 (List.getD h1.f_Dst 3 0), .slice A2 (h1.f_Options).length c3]] w (fun v w' => v = .agg #[.int .u8 r.f_TOS, .int .u16 r.f_Total, .int .u16 r.f_ID, .bool r.f_DF, .bool r.f_MF, .int .u16 r.f_Frag, .int .u8 r.f_TTL, .int .u8 r.f_Proto, .string r.f_Src, .string r.f_Dst, .string r.f_Options] ∧ Mem w [] w' []) := by
  refine calls_KC Try.func11 rfl Try.ntmps11 rfl ?_
  have hM := Mem.init w
  unfold F_docs_Ip at hF
  refine KC.seq ?_
  refine KC.region ?_
  refine RL.eff (E.box (vs := [.int .u8 h1.f_TOS, .int .u16 h1.f_Total, .int .u16 h1.f_ID, .bool h1.f_DF, .bool h1.f_MF, .int .u16 h1.f_Frag, .int .u8 h1.f_TTL, .int .u8 h1.f_Proto, .int .u8 (List.getD h1.f_Src 0 0), .int .u8 (List.getD h1.f_Src 1 0), .int .u8 (List.getD h1.f_Src 2 0), .int .u8 (List.getD h1.f_Src 3 0), .int .u8 (List.getD h1.f_Dst 0 0), .int .u8 (List.getD h1.f_Dst 1 0), .int .u8 (List.getD h1.f_Dst 2 0), .int .u8 (List.getD h1.f_Dst 3 0), .slice A2 (h1.f_Options).length c3]) hM rfl rfl) rfl fun v w6 hv => ?_
  clear hM
  obtain ⟨g5, rfl, hM, hf⟩ := hv
  refine RL.eff (E.alloc hM ze41) rfl fun v w9 hv => ?_
  clear hM
  obtain ⟨g8, rfl, hM, hf⟩ := hv
  refine RL.nil ?_
  refine KQ.then_n ?_
  refine KC.seq ?_
  replace hM := hM.drewN 1
  refine KC.draw [] [26] [26] [0, 2, 4, 6, 8, 10, 12, 14, 16, 17, 19, 20, 22] (.ofList [0, 1, 2, 3, 4, 5, 6, 7, 8, 9, 10, 11, 12, 13, 14, 15, 16, 17, 18, 19, 20, 21, 22, 23, 24, 25, 26]) moP (by kernel_rfl) ?_
  refine RD.p rfl rfl rfl rfl (fun w' => O.fldA fl39_0 (by decide) rfl) ?_
  refine RD.q rfl rfl rfl rfl (fun w' hf => O.load sc5 rfl (Cs.adds [0] ((hM.bx (i := 0) rfl).fut hf) rfl)) ?_
  refine RD.p rfl rfl rfl rfl (fun w' => O.fldA fl39_1 (by decide) rfl) ?_
  refine RD.q rfl rfl rfl rfl (fun w' hf => O.load sc36 rfl (Cs.adds [1] ((hM.bx (i := 0) rfl).fut hf) rfl)) ?_
  refine RD.p rfl rfl rfl rfl (fun w' => O.fldA fl39_2 (by decide) rfl) ?_
  refine RD.q rfl rfl rfl rfl (fun w' hf => O.load sc36 rfl (Cs.adds [2] ((hM.bx (i := 0) rfl).fut hf) rfl)) ?_
  refine RD.p rfl rfl rfl rfl (fun w' => O.fldA fl39_3 (by decide) rfl) ?_
  refine RD.q rfl rfl rfl rfl (fun w' hf => O.load sc4 rfl (Cs.adds [3] ((hM.bx (i := 0) rfl).fut hf) rfl)) ?_
  refine RD.p rfl rfl rfl rfl (fun w' => O.fldA fl39_4 (by decide) rfl) ?_
  refine RD.q rfl rfl rfl rfl (fun w' hf => O.load sc4 rfl (Cs.adds [4] ((hM.bx (i := 0) rfl).fut hf) rfl)) ?_
  refine RD.p rfl rfl rfl rfl (fun w' => O.fldA fl39_5 (by decide) rfl) ?_
  refine RD.q rfl rfl rfl rfl (fun w' hf => O.load sc36 rfl (Cs.adds [5] ((hM.bx (i := 0) rfl).fut hf) rfl)) ?_
  refine RD.p rfl rfl rfl rfl (fun w' => O.fldA fl39_6 (by decide) rfl) ?_
  refine RD.q rfl rfl rfl rfl (fun w' hf => O.load sc5 rfl (Cs.adds [6] ((hM.bx (i := 0) rfl).fut hf) rfl)) ?_
  refine RD.p rfl rfl rfl rfl (fun w' => O.fldA fl39_7 (by decide) rfl) ?_
  refine RD.q rfl rfl rfl rfl (fun w' hf => O.load sc5 rfl (Cs.adds [7] ((hM.bx (i := 0) rfl).fut hf) rfl)) ?_
  refine RD.p rfl rfl rfl rfl (fun w' => O.fldA fl39_8 (by decide) rfl) ?_
  have hr11 := Rd.arr (n := 4) (k := .u8) (xs := h1.f_Src) (Cs.addsN [8] (hM.bx (i := 0) rfl) rfl) rfl rfl
  refine RD.p rfl rfl rfl rfl (fun w' => O.slArr (xs := h1.f_Src) Try.underlying37 sz5 rfl rfl) ?_
  refine RD.q rfl rfl rfl rfl (fun w' hf => O.b2s sl22 Try.underlying5 Try.underlying9 rfl (hr11.fut hf)) ?_
  refine RD.p rfl rfl rfl rfl (fun w' => O.fldA fl39_9 (by decide) rfl) ?_
  have hr12 := Rd.arr (n := 4) (k := .u8) (xs := h1.f_Dst) (Cs.addsN [12] (hM.bx (i := 0) rfl) rfl) rfl rfl
  refine RD.p rfl rfl rfl rfl (fun w' => O.slArr (xs := h1.f_Dst) Try.underlying37 sz5 rfl rfl) ?_
  refine RD.q rfl rfl rfl rfl (fun w' hf => O.b2s sl22 Try.underlying5 Try.underlying9 rfl (hr12.fut hf)) ?_
  refine RD.p rfl rfl rfl rfl (fun w' => O.fldA fl39_10 (by decide) rfl) ?_
  refine RD.q rfl rfl rfl rfl (fun w' hf => O.load sc22 rfl (Cs.adds [16] ((hM.bx (i := 0) rfl).fut hf) rfl)) ?_
  refine RD.q rfl rfl rfl rfl (fun w' hf => O.b2s sl22 Try.underlying5 Try.underlying9 rfl ((hM.inp hr4 Off.nil).fut hf)) ?_
  refine RD.q rfl rfl rfl rfl (fun w' hf => O.bld (cs := [.int .u8 h1.f_TOS, .int .u16 h1.f_Total, .int .u16 h1.f_ID, .bool h1.f_DF, .bool h1.f_MF, .int .u16 h1.f_Frag, .int .u8 h1.f_TTL, .int .u8 h1.f_Proto, .string (strOfNums (arrL 4 h1.f_Src)), .string (strOfNums (arrL 4 h1.f_Dst)), .string (strOfNums h1.f_Options)]) bt41 rfl (by kernel_rfl)) ?_
  refine RD.meffs rfl rfl rfl (E.stB (j := 1) (off := 0) (vs := [.int .u8 h1.f_TOS, .int .u16 h1.f_Total, .int .u16 h1.f_ID, .bool h1.f_DF, .bool h1.f_MF, .int .u16 h1.f_Frag, .int .u8 h1.f_TTL, .int .u8 h1.f_Proto, .string (strOfNums (arrL 4 h1.f_Src)), .string (strOfNums (arrL 4 h1.f_Dst)), .string (strOfNums h1.f_Options)]) (cs' := [.int .u8 h1.f_TOS, .int .u16 h1.f_Total, .int .u16 h1.f_ID, .bool h1.f_DF, .bool h1.f_MF, .int .u16 h1.f_Frag, .int .u8 h1.f_TTL, .int .u8 h1.f_Proto, .string (strOfNums (arrL 4 h1.f_Src)), .string (strOfNums (arrL 4 h1.f_Dst)), .string (strOfNums h1.f_Options)]) hM rfl sz41 rfl (adds_eq [] rfl) rfl rfl (One.all rfl) rfl rfl) fun w13 hM1 => ?_
  clear hM
  have hM := hM1
  clear hM1
  have hr11 := Rd.arr (n := 4) (k := .u8) (xs := h1.f_Src) (Cs.addsN [8] (hM.bx (i := 0) rfl) rfl) rfl rfl
  have hr12 := Rd.arr (n := 4) (k := .u8) (xs := h1.f_Dst) (Cs.addsN [12] (hM.bx (i := 0) rfl) rfl) rfl rfl
  refine RD.nil ?_
  refine KQ.then_n ?_
  refine KC.ret ?_
  have hE := Option.some.inj hF
  clear hF
  subst hE
  have hb14 := hM.bx (i := 1) rfl
  replace hM := hM.pick [] rfl (by decide)
  refine KQ.rets Try.results11 (RVs.cons (RV.cN (cs := [.int .u8 h1.f_TOS, .int .u16 h1.f_Total, .int .u16 h1.f_ID, .bool h1.f_DF, .bool h1.f_MF, .int .u16 h1.f_Frag, .int .u8 h1.f_TTL, .int .u8 h1.f_Proto, .string (strOfNums (arrL 4 h1.f_Src)), .string (strOfNums (arrL 4 h1.f_Dst)), .string (strOfNums h1.f_Options)]) rfl ag41 hb14) RVs.nil) ?_
  exact ⟨_, rfl, rfl, hM⟩
set_option maxRecDepth 100000 in
set_option maxHeartbeats 40000000 in
theorem c_ref05_Right (w : World) (h1 : T_ref05_Header) (r : Bool) (hF : F_ref05_Right h1 = some r) :
    CallsR Try.prog 16 [.agg #[.int .u8 h1.f_TOS, .int .u16 h1.f_Total, .int .u16 h1.f_ID, .bool h1.f_DF, .bool h1.f_MF, .int .u16 h1.f_Frag, .int .u8 h1.f_TTL, .int .u8 h1.f_Proto, .string h1.f_Src, .string h1.f_Dst, .string h1.f_Options]] w (fun v w' => v = .bool r ∧ Mem w [] w' []) := by
  refine calls_KC Try.func16 rfl Try.ntmps16 rfl ?_
  have hM := Mem.init w
  unfold F_ref05_Right at hF
  refine KC.seq ?_
  refine KC.region ?_
  refine RL.eff (E.box (vs := [.int .u8 h1.f_TOS, .int .u16 h1.f_Total, .int .u16 h1.f_ID, .bool h1.f_DF, .bool h1.f_MF, .int .u16 h1.f_Frag, .int .u8 h1.f_TTL, .int .u8 h1.f_Proto, .string h1.f_Src, .string h1.f_Dst, .string h1.f_Options]) hM rfl rfl) rfl fun v w3 hv => ?_
  clear hM
  obtain ⟨g2, rfl, hM, hf⟩ := hv
  refine RL.val (O.assign rfl) rfl ?_
  refine RL.nil ?_
  refine KQ.then_n ?_
  refine KC.seq ?_
  refine KC.region ?_
  refine RL.val (O.fldA fl41_10 (by decide) rfl) rfl ?_
  refine RL.val (O.load sc9 rfl (Cs.adds [10] ((hM.bx (i := 0) rfl)) rfl)) rfl ?_
  refine RL.val (O.lens Try.underlying9 rfl) rfl ?_
  refine RL.val (O.assign rfl) rfl ?_
  refine RL.nil ?_
  refine KQ.then_n ?_
  refine KC.cut (fun a w6 => ∃ (t5 : Bool), Kn 27 [(2, .bool t5)] a ∧ Mem w [] w6 [] ∧ F_ref05_Right_j1 t5 = some r) ?_ ?_
  · refine KC.region ?_
    refine RL.val (O.fldA fl41_5 (by decide) rfl) rfl ?_
    refine RL.val (O.load sc36 rfl (Cs.adds [5] ((hM.bx (i := 0) rfl)) rfl)) rfl ?_
    refine RL.val (O.lss rfl rfl) rfl ?_
    refine RL.val (O.move rfl) rfl ?_
    refine RL.bcase (t := 10) rfl (fun hc => ?_) (fun hc => ?_)
    · rw [if_pos hc] at hF
      refine RL.gval rfl rfl (O.move rfl) rfl ?_
      refine RL.gval rfl rfl (O.rem rfl rfl (by decide)) rfl ?_
      refine RL.gval rfl rfl (O.eql rfl rfl) rfl ?_
      refine RL.val (O.pickt rfl rfl) rfl ?_
      refine RL.val (O.move rfl) rfl ?_
      refine RL.bcase (t := 15) rfl (fun hc => ?_) (fun hc => ?_)
      · rw [if_pos hc] at hF
        refine RL.gval rfl rfl (O.move rfl) rfl ?_
        refine RL.gval rfl rfl (O.leq rfl rfl) rfl ?_
        refine RL.val (O.pickt rfl rfl) rfl ?_
        refine RL.val (O.move rfl) rfl ?_
        refine RL.bcase (t := 19) rfl (fun hc => ?_) (fun hc => ?_)
        · rw [if_pos hc] at hF
          refine RL.gval rfl rfl (O.fldA fl41_1 (by decide) rfl) rfl ?_
          refine RL.gval rfl rfl (O.load sc36 rfl (Cs.adds [1] ((hM.bx (i := 0) rfl)) rfl)) rfl ?_
          refine RL.gval rfl rfl (O.conv un36 Try.underlying3 rfl) rfl ?_
          refine RL.gval rfl rfl (O.move rfl) rfl ?_
          refine RL.gval rfl rfl (O.add rfl rfl) rfl ?_
          refine RL.gval rfl rfl (O.geq rfl rfl) rfl ?_
          refine RL.val (O.pickt rfl rfl) rfl ?_
          refine RL.val (O.assign rfl) rfl ?_
          refine RL.nil ?_
          refine KQ.then_k ?_
          replace hM := hM.pick [] rfl (by decide)
          exact fun a ha => ⟨(decide ((IntKind.i64.wrap (20 + (h1.f_Options.size : Int))) ≤ (IntKind.i64.wrap h1.f_Total))), ha.less (less_cons rfl less_nil), hM, hF⟩
        · rw [if_neg (ne_true hc)] at hF
          refine RL.brun1 7 26 false (by kernel_rfl) ?_
          refine RL.val (O.assign rfl) rfl ?_
          refine RL.nil ?_
          refine KQ.then_k ?_
          replace hM := hM.pick [] rfl (by decide)
          exact fun a ha => ⟨false, ha.less (less_cons rfl less_nil), hM, hF⟩
      · rw [if_neg (ne_true hc)] at hF
        refine RL.brun1 11 26 false (by kernel_rfl) ?_
        refine RL.val (O.assign rfl) rfl ?_
        refine RL.nil ?_
        refine KQ.then_k ?_
        replace hM := hM.pick [] rfl (by decide)
        exact fun a ha => ⟨false, ha.less (less_cons rfl less_nil), hM, hF⟩
    · rw [if_neg (ne_true hc)] at hF
      refine RL.brun1 16 26 false (by kernel_rfl) ?_
      refine RL.val (O.assign rfl) rfl ?_
      refine RL.nil ?_
      refine KQ.then_k ?_
      replace hM := hM.pick [] rfl (by decide)
      exact fun a ha => ⟨false, ha.less (less_cons rfl less_nil), hM, hF⟩
  · rintro a w6 ⟨t5, ha, hM, hF⟩
    refine KC.app ha ?_
    clear ha
    unfold F_ref05_Right_j1 at hF
    refine KC.ret ?_
    have hE := Option.some.inj hF
    clear hF
    subst hE
    refine KQ.rets Try.results16 (RVs.cons (RV.tm rfl) RVs.nil) ?_
    exact ⟨_, rfl, rfl, hM⟩
end Go.Proofs.Ytjfdfjmnajjjaaa
