/- Printed by a program of this claim: each call returns what the plain function of its name gives. -/
import Derived.Test.YtpbkjellpboefaaW2
set_option linter.unusedVariables false
namespace Go.Proofs.Ytpbkjellpboefaa
open Go Go.Ox Go.RowKit
set_option maxRecDepth 100000 in
set_option maxHeartbeats 40000000 in
theorem c_law01_BitsWrites (w : World) (A2 : Option Addr) (c3 : Nat) (lv1 : List T_law01_Act) (hr4 : RdD R_law01_Act [] w A2 c3 5 lv1) (r : Bool) (hF : F_law01_BitsWrites lv1 = some r) :
    CallsR Try.prog 4 [.slice A2 (lv1).length c3] w (fun v w' => v = .bool r ∧ Mem w [] w' []) := by
  refine calls_KC Try.func4 rfl Try.ntmps4 rfl ?_
  have hM := Mem.init w
  unfold F_law01_BitsWrites at hF
  refine KC.seq ?_
  refine KC.region ?_
  refine RL.val (O.assign rfl) rfl ?_
  refine RL.nil ?_
  refine KQ.then_n ?_
  refine KC.seq ?_
  refine KC.seq ?_
  refine KC.region ?_
  refine RL.val (O.move rfl) rfl ?_
  obtain ⟨y5, hx6, hF⟩ := obind hF
  refine RL.call Try.func14 bd14 rfl rfl (c_law01_few _ _ _ lv1 (hr4.chg mv_law01_Act hM.chg) 40 _ hx6) fun v w7 hv => ?_
  obtain ⟨rfl, hN8⟩ := hv
  have hM := hM.call0 hN8
  refine RL.val (O.not rfl) rfl ?_
  refine RL.nil ?_
  refine KQ.then_n ?_
  refine KC.cond rfl (fun hc => ?_) (fun hc => ?_)
  · rw [if_pos hc] at hF
    refine KC.seq ?_
    refine KC.region ?_
    obtain ⟨y9, hx10, hF⟩ := obind hF
    refine RL.call Try.func9 bd9 rfl rfl (c_law01_works _ _ hx10) fun v w11 hv => ?_
    obtain ⟨rfl, hN12⟩ := hv
    have hM := hM.call0 hN12
    refine RL.val (O.assign rfl) rfl ?_
    refine RL.nil ?_
    refine KQ.then_n ?_
    refine KC.ret ?_
    refine KQ.then_r ?_
    obtain rfl := Option.some.inj hF
    refine KQ.rets Try.results4 (RVs.cons (RV.tm rfl) RVs.nil) ?_
    exact ⟨_, rfl, rfl, hM⟩
  · rw [if_neg (ne_true hc)] at hF
    refine KC.skip ?_
    refine KQ.then_n ?_
    refine KC.seq ?_
    refine KC.region ?_
    refine RL.eff (E.alloc hM ze33) rfl fun v w14 hv => ?_
    obtain ⟨g13, rfl, hM, hf⟩ := hv
    refine RL.nil ?_
    refine KQ.then_n ?_
    refine KC.seq ?_
    refine KC.region ?_
    refine RL.val (O.assign rfl) rfl ?_
    refine RL.nil ?_
    refine KQ.then_n ?_
    refine KC.seq ?_
    refine KC.seq ?_
    refine KC.region ?_
    refine RL.val (O.assign rfl) rfl ?_
    refine RL.nil ?_
    refine KQ.then_n ?_
    refine KC.block ?_
    refine KC.loop (fun k542 a w540 => ∃ (A532 : Option Addr) (c533 : Nat) (A536 : Option Addr) (c537 : Nat) (wv534 : List Int) (want538 : List Int) (i539 : Int), Kn 175 [(0, .slice A2 (lv1).length c3), (3, .pointer (some ⟨g13, 0, none⟩)), (4, .slice A536 (want538).length c537), (5, .int .i64 i539)] a ∧ Mem w [] w540 [.row A532 c533 5 1 (wv534).length ((wv534).flatMap (eI .u8)), .box g13 33 [.slice A532 (wv534).length c533], .row A536 c537 5 1 (want538).length ((want538).flatMap (eI .u8))] ∧ F_law01_BitsWrites_L1 lv1 k542 wv534 want538 i539 = some r) ?_ ?_
    · have hM := hM.nilrow 5 1
      have hM := hM.nilrow 5 1
      have hM := hM.pick [1, 0, 2] rfl (by decide)
      exact fun a ha => ⟨fuel0, none, 0, none, 0, ([]), ([]), 0, ha.less (less_cons rfl (less_cons rfl (less_cons rfl (less_cons rfl less_nil)))), hM, hF⟩
    · rintro k542 a w540 ⟨A532, c533, A536, c537, wv534, want538, i539, ha, hM, hF⟩
      refine KC.app ha ?_
      clear ha
      cases k542 with
      | zero => exact (none_some hF).elim
      | succ k542 =>
      have hF : F_law01_BitsWrites_l1 (F_law01_BitsWrites_L1 lv1 k542) lv1 wv534 want538 i539 = some r := hF
      unfold F_law01_BitsWrites_l1 at hF
      refine KC.seq ?_
      refine KC.seq ?_
      refine KC.region ?_
      refine RL.val (O.move rfl) rfl ?_
      refine RL.val (O.move rfl) rfl ?_
      refine RL.val (O.len sl30 rfl) rfl ?_
      refine RL.val (O.lss rfl rfl) rfl ?_
      refine RL.nil ?_
      refine KQ.then_n ?_
      refine KC.cond rfl (fun hc => ?_) (fun hc => ?_)
      · rw [if_pos hc] at hF
        refine KC.skip ?_
        refine KQ.then_n ?_
        refine KC.seq ?_
        refine KC.block ?_
        refine KC.seq ?_
        refine KC.region ?_
        refine RL.val (O.move rfl) rfl ?_
        refine RL.val (O.move rfl) rfl ?_
        obtain ⟨xv545, hx544, hF⟩ := obind hF
        obtain ⟨cs548, hA543, hR546, hO547⟩ := RdD.at hr4 hx544
        obtain ⟨A549, c550, rfl, hr551, ho552⟩ := hR546
        have hA543 := hA543.chg hM.chg hO547
        refine RL.val (O.idxA sl30 (hA543) rfl rfl) rfl ?_
        refine RL.val (O.loadN (cs := [.int .i64 xv545.f_Do, .int .i64 xv545.f_At, .int .u64 xv545.f_V, .int .i64 xv545.f_Size, .slice A549 (xv545.f_B).length c550]) ag35 rfl (hA543).cells) rfl ?_
        refine RL.eff (E.alloc hM ze35) rfl fun v w554 hv => ?_
        obtain ⟨g553, rfl, hM, hf⟩ := hv
        refine RL.effs (E.stB (j := 3) (off := 0) (vs := [.int .i64 xv545.f_Do, .int .i64 xv545.f_At, .int .u64 xv545.f_V, .int .i64 xv545.f_Size, .slice A549 (xv545.f_B).length c550]) (cs' := [.int .i64 xv545.f_Do, .int .i64 xv545.f_At, .int .u64 xv545.f_V, .int .i64 xv545.f_Size, .slice A549 (xv545.f_B).length c550]) hM rfl sz35 rfl (adds_eq [] rfl) rfl rfl (One.all rfl) rfl rfl) fun w556 hM => ?_
        refine RL.nil ?_
        refine KQ.then_n ?_
        refine KC.seq ?_
        refine KC.region ?_
        refine RL.val (O.fldA fl35_2 (by decide) rfl) rfl ?_
        refine RL.val (O.load sc23 rfl (Cs.adds [2] ((hM.bx (i := 3) rfl)) rfl)) rfl ?_
        refine RL.val (O.fldA fl35_3 (by decide) rfl) rfl ?_
        refine RL.val (O.load sc3 rfl (Cs.adds [3] ((hM.bx (i := 3) rfl)) rfl)) rfl ?_
        obtain ⟨y557, hx558, hF⟩ := obind hF
        refine RL.call Try.func15 bd15 rfl rfl (c_ref01_Fits _ xv545.f_V xv545.f_Size _ hx558) fun v w559 hv => ?_
        obtain ⟨rfl, hN560⟩ := hv
        have hM := hM.call0 hN560
        refine RL.val (O.assign rfl) rfl ?_
        refine RL.nil ?_
        refine KQ.then_n ?_
        refine KC.cut (fun a w721 => ∃ (A714 : Option Addr) (c715 : Nat) (A718 : Option Addr) (c719 : Nat) (wv716 : List Int) (want720 : List Int), Kn 175 [(0, .slice A2 (lv1).length c3), (3, .pointer (some ⟨g13, 0, none⟩)), (4, .slice A718 (want720).length c719), (5, .int .i64 i539)] a ∧ Mem w [] w721 [.row A714 c715 5 1 (wv716).length ((wv716).flatMap (eI .u8)), .box g13 33 [.slice A714 (wv716).length c715], .row A718 c719 5 1 (want720).length ((want720).flatMap (eI .u8))] ∧ F_law01_BitsWrites_j1 i539 (F_law01_BitsWrites_L1 lv1 k542) wv716 want720 = some r) ?_ ?_
        · refine KC.seq ?_
          refine KC.region ?_
          refine RL.val (O.fldA fl35_0 (by decide) rfl) rfl ?_
          refine RL.val (O.load sc3 rfl (Cs.adds [0] ((hM.bx (i := 3) rfl)) rfl)) rfl ?_
          obtain ⟨y561, hx562, hF⟩ := obind hF
          refine RL.call Try.func16 bd16 rfl rfl (c_kit_Pick _ xv545.f_Do 4 _ hx562) fun v w563 hv => ?_
          obtain ⟨rfl, hN564⟩ := hv
          have hM := hM.call0 hN564
          refine RL.nil ?_
          refine KQ.then_n ?_
          refine KC.block ?_
          refine KC.seq ?_
          refine KC.region ?_
          refine RL.val (O.eql rfl rfl) rfl ?_
          refine RL.val (O.assign rfl) rfl ?_
          refine RL.nil ?_
          refine KQ.then_n ?_
          refine KC.cond rfl (fun hc => ?_) (fun hc => ?_)
          · rw [if_pos hc] at hF
            refine KC.seq ?_
            refine KC.region ?_
            refine RL.val (O.fldA fl35_2 (by decide) rfl) rfl ?_
            refine RL.val (O.load sc23 rfl (Cs.adds [2] ((hM.bx (i := 3) rfl)) rfl)) rfl ?_
            refine RL.val (O.fldA fl35_3 (by decide) rfl) rfl ?_
            refine RL.val (O.load sc3 rfl (Cs.adds [3] ((hM.bx (i := 3) rfl)) rfl)) rfl ?_
            obtain ⟨y565, hx566, hF⟩ := obind hF
            refine RL.call Try.func17 bd17 rfl rfl (c_bits_Writer_Put _ _ (T_bits_Writer.mk wv534) _ _ (hM.lent [1, 0] rfl (by decide)) xv545.f_V xv545.f_Size _ hx566) fun v w567 hv => ?_
            obtain ⟨A569, c570, rfl, hN568⟩ := hv
            have hM := hM.callL [1, 0] [2, 3] rfl rfl (by decide) rfl hN568
            refine RL.val (O.assign rfl) rfl ?_
            refine RL.nil ?_
            refine KQ.then_n ?_
            refine KC.seq ?_
            refine KC.cut (fun a w577 => ∃ (t576 : Bool), Kn 175 [(0, .slice A2 (lv1).length c3), (3, .pointer (some ⟨g13, 0, none⟩)), (4, .slice A536 (want538).length c537), (5, .int .i64 i539), (6, .pointer (some ⟨g553, 0, none⟩)), (7, .bool y557), (55, .bool t576)] a ∧ Mem w [] w577 [.row A569 c570 5 1 (y565.2.f_b).length ((y565.2.f_b).flatMap (eI .u8)), .box g13 33 [.slice A569 (y565.2.f_b).length c570], .row A536 c537 5 1 (want538).length ((want538).flatMap (eI .u8)), .box g553 35 [.int .i64 xv545.f_Do, .int .i64 xv545.f_At, .int .u64 xv545.f_V, .int .i64 xv545.f_Size, .slice A549 (xv545.f_B).length c550]] ∧ F_law01_BitsWrites_j3 want538 i539 (F_law01_BitsWrites_L1 lv1 k542) xv545 y557 y565 t576 = some r) ?_ ?_
            · refine KC.region ?_
              refine RL.val (O.move rfl) rfl ?_
              refine RL.val (O.eql rfl rfl) rfl ?_
              refine RL.val (O.move rfl) rfl ?_
              refine RL.val (O.neqb Try.underlying4 rfl rfl) rfl ?_
              refine RL.val (O.move rfl) rfl ?_
              refine RL.bcase (t := 48) rfl (fun hc => ?_) (fun hc => ?_)
              · rw [if_pos hc] at hF
                refine RL.gskip rfl rfl rfl rfl ?_
                refine RL.gskip rfl rfl rfl rfl ?_
                refine RL.gskip rfl rfl rfl rfl ?_
                refine RL.gskip' rfl rfl rfl ?_
                refine RL.gskip' rfl rfl rfl ?_
                refine RL.gskip rfl rfl rfl rfl ?_
                refine RL.val (O.pickt rfl rfl) rfl ?_
                refine RL.nil ?_
                refine KQ.then_k ?_
                have hM := hM.pick [3, 2, 0, 1] rfl (by decide)
                exact fun a ha => ⟨true, ha.less (less_cons rfl (less_cons rfl (less_cons rfl (less_cons rfl (less_cons rfl (less_cons rfl (less_cons rfl less_nil))))))), hM, hF⟩
              · rw [if_neg (ne_true hc)] at hF
                refine RL.gval rfl rfl (O.move rfl) rfl ?_
                refine RL.gval rfl rfl (O.not rfl) rfl ?_
                refine RL.gval rfl rfl (O.move rfl) rfl ?_
                refine RL.bcase (t := 51) rfl (fun hc => ?_) (fun hc => ?_)
                · rw [if_pos hc] at hF
                  refine RL.gval rfl rfl (O.move rfl) rfl ?_
                  refine RL.gval rfl rfl (O.neq rfl rfl) rfl ?_
                  refine RL.gval rfl rfl (O.pickt rfl rfl) rfl ?_
                  refine RL.val (O.pickf rfl rfl) rfl ?_
                  refine RL.nil ?_
                  refine KQ.then_k ?_
                  have hM := hM.pick [3, 2, 0, 1] rfl (by decide)
                  exact fun a ha => ⟨(y565.1 != 2), ha.less (less_cons rfl (less_cons rfl (less_cons rfl (less_cons rfl (less_cons rfl (less_cons rfl (less_cons rfl less_nil))))))), hM, hF⟩
                · rw [if_neg (ne_true hc)] at hF
                  refine RL.gskip rfl rfl rfl rfl ?_
                  refine RL.gskip rfl rfl rfl rfl ?_
                  refine RL.gval rfl rfl (O.pickf rfl rfl) rfl ?_
                  refine RL.val (O.pickf rfl rfl) rfl ?_
                  refine RL.nil ?_
                  refine KQ.then_k ?_
                  have hM := hM.pick [3, 2, 0, 1] rfl (by decide)
                  exact fun a ha => ⟨false, ha.less (less_cons rfl (less_cons rfl (less_cons rfl (less_cons rfl (less_cons rfl (less_cons rfl (less_cons rfl less_nil))))))), hM, hF⟩
            · rintro a w577 ⟨t576, ha, hM, hF⟩
              refine KC.app ha ?_
              clear ha
              unfold F_law01_BitsWrites_j3 at hF
              refine KC.cond rfl (fun hc => ?_) (fun hc => ?_)
              · rw [if_pos hc] at hF
                refine KC.seq ?_
                refine KC.region ?_
                refine RL.val (O.assign rfl) rfl ?_
                refine RL.nil ?_
                refine KQ.then_n ?_
                refine KC.ret ?_
                refine KQ.then_r ?_
                refine KQ.blk_r ?_
                refine KQ.then_r ?_
                refine KQ.blk_r ?_
                refine KQ.then_r ?_
                refine KQ.then_r ?_
                refine KQ.blk_r ?_
                refine KQ.then_r ?_
                obtain rfl := Option.some.inj hF
                have hM := hM.pick [] rfl (by decide)
                refine KQ.rets Try.results4 (RVs.cons (RV.tm rfl) RVs.nil) ?_
                exact ⟨_, rfl, rfl, hM⟩
              · rw [if_neg (ne_true hc)] at hF
                refine KC.skip ?_
                refine KQ.then_n ?_
                refine KC.seq ?_
                refine KC.region ?_
                refine RL.val (O.move rfl) rfl ?_
                refine RL.nil ?_
                refine KQ.then_n ?_
                refine KC.cond rfl (fun hc => ?_) (fun hc => ?_)
                · rw [if_pos hc] at hF
                  refine KC.region ?_
                  refine RL.val (O.move rfl) rfl ?_
                  refine RL.val (O.fldA fl35_2 (by decide) rfl) rfl ?_
                  refine RL.val (O.load sc23 rfl (Cs.adds [2] ((hM.bx (i := 3) rfl)) rfl)) rfl ?_
                  refine RL.val (O.fldA fl35_3 (by decide) rfl) rfl ?_
                  refine RL.val (O.load sc3 rfl (Cs.adds [3] ((hM.bx (i := 3) rfl)) rfl)) rfl ?_
                  obtain ⟨y578, hx579, hF⟩ := obind hF
                  refine RL.call Try.func19 bd19 rfl rfl (c_ref01_Put _ xv545.f_V xv545.f_Size _ hx579) fun v w580 hv => ?_
                  obtain ⟨A582, c583, rfl, hN581⟩ := hv
                  have hM := hM.call hN581
                  obtain ⟨y585, hx586, hF⟩ := obind hF
                  refine RL.call Try.func18 bd18 rfl rfl (c_ref01_Join _ _ _ want538 (hM.rd (i := 2) rfl) _ _ y578 (hM.rd (i := 4) rfl) _ hx586) fun v w587 hv => ?_
                  obtain ⟨A589, c590, rfl, hN588⟩ := hv
                  have hM := hM.call hN588
                  refine RL.val (O.assign rfl) rfl ?_
                  refine RL.nil ?_
                  refine KQ.blk_n ?_
                  refine KQ.then_k ?_
                  have hM := hM.pick [0, 1, 5] rfl (by decide)
                  exact fun a ha => ⟨A569, c570, A589, c590, y565.2.f_b, y585, ha.less (less_cons rfl (less_cons rfl (less_cons rfl (less_cons rfl less_nil)))), hM, hF⟩
                · rw [if_neg (ne_true hc)] at hF
                  refine KC.skip ?_
                  refine KQ.blk_n ?_
                  refine KQ.then_k ?_
                  have hM := hM.pick [0, 1, 2] rfl (by decide)
                  exact fun a ha => ⟨A569, c570, A536, c537, y565.2.f_b, want538, ha.less (less_cons rfl (less_cons rfl (less_cons rfl (less_cons rfl less_nil)))), hM, hF⟩
          · rw [if_neg (ne_true hc)] at hF
            refine KC.seq ?_
            refine KC.region ?_
            refine RL.val (O.eql rfl rfl) rfl ?_
            refine RL.val (O.assign rfl) rfl ?_
            refine RL.nil ?_
            refine KQ.then_n ?_
            refine KC.cond rfl (fun hc => ?_) (fun hc => ?_)
            · rw [if_pos hc] at hF
              refine KC.seq ?_
              refine KC.region ?_
              refine RL.val (O.fldA fl35_4 (by decide) rfl) rfl ?_
              refine RL.val (O.load sc22 rfl (Cs.adds [4] ((hM.bx (i := 3) rfl)) rfl)) rfl ?_
              obtain ⟨y592, hx593, hF⟩ := obind hF
              refine RL.call Try.func18 bd18 rfl rfl (c_ref01_Join _ none 0 [] Rd.nilr _ _ xv545.f_B (hM.inp hr551 Off.nil) _ hx593) fun v w594 hv => ?_
              obtain ⟨A596, c597, rfl, hN595⟩ := hv
              have hM := hM.call hN595
              refine RL.val (O.assign rfl) rfl ?_
              refine RL.nil ?_
              refine KQ.then_n ?_
              refine KC.seq ?_
              refine KC.seq ?_
              refine KC.region ?_
              refine RL.val (O.move rfl) rfl ?_
              obtain ⟨y599, hx600, hF⟩ := obind hF
              refine RL.call Try.func20 bd20 rfl rfl (c_bits_Writer_Raw _ _ (T_bits_Writer.mk wv534) _ _ (hM.lent [1, 0] rfl (by decide)) _ _ y592 (hM.rd (i := 4) rfl) (hM.offR [1, 0] rfl (i := 4) rfl rfl) _ hx600) fun v w601 hv => ?_
              obtain ⟨A603, c604, rfl, hN602⟩ := hv
              have hM := hM.callL [1, 0] [2, 3, 4] rfl rfl (by decide) rfl hN602
              refine RL.val (O.neq rfl rfl) rfl ?_
              refine RL.nil ?_
              refine KQ.then_n ?_
              refine KC.cond rfl (fun hc => ?_) (fun hc => ?_)
              · rw [if_pos hc] at hF
                refine KC.seq ?_
                refine KC.region ?_
                refine RL.val (O.assign rfl) rfl ?_
                refine RL.nil ?_
                refine KQ.then_n ?_
                refine KC.ret ?_
                refine KQ.then_r ?_
                refine KQ.blk_r ?_
                refine KQ.then_r ?_
                refine KQ.blk_r ?_
                refine KQ.then_r ?_
                refine KQ.then_r ?_
                refine KQ.blk_r ?_
                refine KQ.then_r ?_
                obtain rfl := Option.some.inj hF
                have hM := hM.pick [] rfl (by decide)
                refine KQ.rets Try.results4 (RVs.cons (RV.tm rfl) RVs.nil) ?_
                exact ⟨_, rfl, rfl, hM⟩
              · rw [if_neg (ne_true hc)] at hF
                refine KC.skip ?_
                refine KQ.then_n ?_
                refine KC.seq ?_
                refine KC.seq ?_
                refine KC.region ?_
                refine RL.val (O.assign rfl) rfl ?_
                refine RL.nil ?_
                refine KQ.then_n ?_
                refine KC.block ?_
                refine KC.loop (fun k642 a w640 => ∃ (A636 : Option Addr) (c637 : Nat) (own638 : List Int) (kv639 : Int), Kn 175 [(0, .slice A2 (lv1).length c3), (3, .pointer (some ⟨g13, 0, none⟩)), (4, .slice A536 (want538).length c537), (5, .int .i64 i539), (6, .pointer (some ⟨g553, 0, none⟩)), (9, .slice A636 (own638).length c637), (10, .int .i64 kv639)] a ∧ Mem w [] w640 [.row A603 c604 5 1 (y599.2.f_b).length ((y599.2.f_b).flatMap (eI .u8)), .box g13 33 [.slice A603 (y599.2.f_b).length c604], .row A536 c537 5 1 (want538).length ((want538).flatMap (eI .u8)), .box g553 35 [.int .i64 xv545.f_Do, .int .i64 xv545.f_At, .int .u64 xv545.f_V, .int .i64 xv545.f_Size, .slice A549 (xv545.f_B).length c550], .row A636 c637 5 1 (own638).length ((own638).flatMap (eI .u8))] ∧ F_law01_BitsWrites_L3 want538 i539 (F_law01_BitsWrites_L1 lv1 k542) xv545 y599 k642 own638 kv639 = some r) ?_ ?_
                · have hM := hM.pick [4, 3, 0, 1, 2] rfl (by decide)
                  exact fun a ha => ⟨fuel0, A596, c597, y592, 0, ha.less (less_cons rfl (less_cons rfl (less_cons rfl (less_cons rfl (less_cons rfl (less_cons rfl (less_cons rfl less_nil))))))), hM, hF⟩
                · rintro k642 a w640 ⟨A636, c637, own638, kv639, ha, hM, hF⟩
                  refine KC.app ha ?_
                  clear ha
                  cases k642 with
                  | zero => exact (none_some hF).elim
                  | succ k642 =>
                  have hF : F_law01_BitsWrites_l3 (F_law01_BitsWrites_L3 want538 i539 (F_law01_BitsWrites_L1 lv1 k542) xv545 y599 k642) want538 i539 (F_law01_BitsWrites_L1 lv1 k542) xv545 y599 own638 kv639 = some r := hF
                  unfold F_law01_BitsWrites_l3 at hF
                  refine KC.seq ?_
                  refine KC.seq ?_
                  refine KC.region ?_
                  refine RL.val (O.move rfl) rfl ?_
                  refine RL.val (O.move rfl) rfl ?_
                  refine RL.val (O.len sl22 rfl) rfl ?_
                  refine RL.val (O.lss rfl rfl) rfl ?_
                  refine RL.nil ?_
                  refine KQ.then_n ?_
                  refine KC.cond rfl (fun hc => ?_) (fun hc => ?_)
                  · rw [if_pos hc] at hF
                    refine KC.skip ?_
                    refine KQ.then_n ?_
                    refine KC.seq ?_
                    refine KC.block ?_
                    refine KC.region ?_
                    refine RL.val (O.move rfl) rfl ?_
                    refine RL.val (O.move rfl) rfl ?_
                    obtain ⟨xv645, hx644, hF⟩ := obind hF
                    have hA643 := Rd.atN (f := (eI .u8)) (s := 1) (fun _ => rfl) (by decide) (hM.rd (i := 4) rfl) hx644
                    refine RL.val (O.idxA sl22 (hA643) rfl rfl) rfl ?_
                    refine RL.val (O.load sc5 rfl (hA643).cells.at0) rfl ?_
                    refine RL.val (O.add rfl rfl) rfl ?_
                    obtain ⟨xv648, hx647, hF⟩ := obind hF
                    have hA646 := Rd.atN (f := (eI .u8)) (s := 1) (fun _ => rfl) (by decide) (hM.rd (i := 4) rfl) hx647
                    refine RL.val (O.idxA sl22 (hA646) rfl rfl) rfl ?_
                    refine RL.effs (E.stR (enc := (eI .u8)) (j := 4) (off := 0) (vs := [.int .u8 (IntKind.u8.wrap (xv645 + 1))]) (x' := (IntKind.u8.wrap (xv645 + 1))) hM rfl (fun _ => rfl) hx647 sz5 rfl (addsR_eq [] rfl) rfl rfl (One.all rfl) rfl rfl) fun w649 hM => ?_
                    obtain ⟨hM, hn650⟩ := hM
                    refine RL.reslot (t := 9) rfl hn650 ?_
                    refine RL.reslot (t := 73) rfl hn650 ?_
                    refine RL.reslot (t := 78) rfl hn650 ?_
                    refine RL.nil ?_
                    refine KQ.blk_n ?_
                    refine KQ.then_n ?_
                    refine KC.region ?_
                    refine RL.val (O.move rfl) rfl ?_
                    refine RL.val (O.add rfl rfl) rfl ?_
                    refine RL.val (O.assign rfl) rfl ?_
                    refine RL.nil ?_
                    refine KQ.then_k ?_
                    exact fun a ha => ⟨k642, Nat.lt_succ_self k642, A636, c637, (own638.set (kv639).toNat (IntKind.u8.wrap (xv645 + 1))), (IntKind.i64.wrap (kv639 + 1)), ha.less (less_cons rfl (less_cons rfl (less_cons rfl (less_cons rfl (less_cons rfl (less_cons rfl (less_cons rfl less_nil))))))), hM, hF⟩
                  · rw [if_neg (ne_true hc)] at hF
                    refine KC.exit ?_
                    refine KQ.then_x ?_
                    refine KQ.then_x ?_
                    refine KQ.blk_x ?_
                    refine KQ.then_n ?_
                    refine KC.region ?_
                    refine RL.val (O.move rfl) rfl ?_
                    refine RL.val (O.fldA fl35_4 (by decide) rfl) rfl ?_
                    refine RL.val (O.load sc22 rfl (Cs.adds [4] ((hM.bx (i := 3) rfl)) rfl)) rfl ?_
                    obtain ⟨y651, hx652, hF⟩ := obind hF
                    refine RL.call Try.func18 bd18 rfl rfl (c_ref01_Join _ _ _ want538 (hM.rd (i := 2) rfl) _ _ xv545.f_B (hM.inp hr551 Off.nil) _ hx652) fun v w653 hv => ?_
                    obtain ⟨A655, c656, rfl, hN654⟩ := hv
                    have hM := hM.call hN654
                    refine RL.val (O.assign rfl) rfl ?_
                    refine RL.nil ?_
                    refine KQ.blk_n ?_
                    refine KQ.then_k ?_
                    have hM := hM.pick [0, 1, 5] rfl (by decide)
                    exact fun a ha => ⟨A603, c604, A655, c656, y599.2.f_b, y651, ha.less (less_cons rfl (less_cons rfl (less_cons rfl (less_cons rfl less_nil)))), hM, hF⟩
            · rw [if_neg (ne_true hc)] at hF
              refine KC.seq ?_
              refine KC.region ?_
              refine RL.val (O.eql rfl rfl) rfl ?_
              refine RL.val (O.assign rfl) rfl ?_
              refine RL.nil ?_
              refine KQ.then_n ?_
              refine KC.cond rfl (fun hc => ?_) (fun hc => ?_)
              · rw [if_pos hc] at hF
                refine KC.seq ?_
                refine KC.region ?_
                refine RL.val (O.fldA fl35_1 (by decide) rfl) rfl ?_
                refine RL.val (O.load sc3 rfl (Cs.adds [1] ((hM.bx (i := 3) rfl)) rfl)) rfl ?_
                refine RL.val (O.fldA fl35_2 (by decide) rfl) rfl ?_
                refine RL.val (O.load sc23 rfl (Cs.adds [2] ((hM.bx (i := 3) rfl)) rfl)) rfl ?_
                refine RL.val (O.fldA fl35_3 (by decide) rfl) rfl ?_
                refine RL.val (O.load sc3 rfl (Cs.adds [3] ((hM.bx (i := 3) rfl)) rfl)) rfl ?_
                obtain ⟨y658, hx659, hF⟩ := obind hF
                refine RL.call Try.func21 bd21 rfl rfl (c_bits_Writer_Set _ _ (T_bits_Writer.mk wv534) _ _ (hM.lent [1, 0] rfl (by decide)) xv545.f_At xv545.f_V xv545.f_Size _ hx659) fun v w660 hv => ?_
                obtain ⟨A662, c663, rfl, hN661⟩ := hv
                have hM := hM.callL [1, 0] [2, 3] rfl rfl (by decide) rfl hN661
                refine RL.val (O.assign rfl) rfl ?_
                refine RL.nil ?_
                refine KQ.then_n ?_
                refine KC.cut (fun a w670 => ∃ (may669 : Bool), Kn 175 [(0, .slice A2 (lv1).length c3), (3, .pointer (some ⟨g13, 0, none⟩)), (4, .slice A536 (want538).length c537), (5, .int .i64 i539), (6, .pointer (some ⟨g553, 0, none⟩)), (11, .int .i64 y658.1), (12, .bool may669)] a ∧ Mem w [] w670 [.row A662 c663 5 1 (y658.2.f_b).length ((y658.2.f_b).flatMap (eI .u8)), .box g13 33 [.slice A662 (y658.2.f_b).length c663], .row A536 c537 5 1 (want538).length ((want538).flatMap (eI .u8)), .box g553 35 [.int .i64 xv545.f_Do, .int .i64 xv545.f_At, .int .u64 xv545.f_V, .int .i64 xv545.f_Size, .slice A549 (xv545.f_B).length c550]] ∧ F_law01_BitsWrites_j4 want538 i539 (F_law01_BitsWrites_L1 lv1 k542) xv545 y658 may669 = some r) ?_ ?_
                · refine KC.region ?_
                  refine RL.val (O.move rfl) rfl ?_
                  refine RL.val (O.move rfl) rfl ?_
                  refine RL.bcase (t := 98) rfl (fun hc => ?_) (fun hc => ?_)
                  · rw [if_pos hc] at hF
                    refine RL.gval rfl rfl (O.fldA fl35_1 (by decide) rfl) rfl ?_
                    refine RL.gval rfl rfl (O.load sc3 rfl (Cs.adds [1] ((hM.bx (i := 1) rfl)) rfl)) rfl ?_
                    refine RL.gval rfl rfl (O.geq rfl rfl) rfl ?_
                    refine RL.val (O.pickt rfl rfl) rfl ?_
                    refine RL.val (O.move rfl) rfl ?_
                    refine RL.bcase (t := 103) rfl (fun hc => ?_) (fun hc => ?_)
                    · rw [if_pos hc] at hF
                      refine RL.gval rfl rfl (O.fldA fl35_1 (by decide) rfl) rfl ?_
                      refine RL.gval rfl rfl (O.load sc3 rfl (Cs.adds [1] ((hM.bx (i := 1) rfl)) rfl)) rfl ?_
                      refine RL.gval rfl rfl (O.move rfl) rfl ?_
                      refine RL.gval rfl rfl (O.len sl22 rfl) rfl ?_
                      refine RL.gval rfl rfl (O.leq rfl rfl) rfl ?_
                      refine RL.val (O.pickt rfl rfl) rfl ?_
                      refine RL.val (O.move rfl) rfl ?_
                      refine RL.bcase (t := 110) rfl (fun hc => ?_) (fun hc => ?_)
                      · rw [if_pos hc] at hF
                        refine RL.gval rfl rfl (O.move rfl) rfl ?_
                        refine RL.gval rfl rfl (O.len sl22 rfl) rfl ?_
                        refine RL.gval rfl rfl (O.fldA fl35_1 (by decide) rfl) rfl ?_
                        refine RL.gval rfl rfl (O.load sc3 rfl (Cs.adds [1] ((hM.bx (i := 1) rfl)) rfl)) rfl ?_
                        refine RL.gval rfl rfl (O.sub rfl rfl) rfl ?_
                        refine RL.gval rfl rfl (O.fldA fl35_3 (by decide) rfl) rfl ?_
                        refine RL.gval rfl rfl (O.load sc3 rfl (Cs.adds [3] ((hM.bx (i := 1) rfl)) rfl)) rfl ?_
                        refine RL.gval rfl rfl (O.geq rfl rfl) rfl ?_
                        refine RL.val (O.pickt rfl rfl) rfl ?_
                        refine RL.val (O.assign rfl) rfl ?_
                        refine RL.nil ?_
                        refine KQ.then_k ?_
                        have hM := hM.pick [3, 2, 0, 1] rfl (by decide)
                        exact fun a ha => ⟨(decide (xv545.f_Size ≤ (IntKind.i64.wrap ((want538.length : Int) - xv545.f_At)))), ha.less (less_cons rfl (less_cons rfl (less_cons rfl (less_cons rfl (less_cons rfl (less_cons rfl (less_cons rfl less_nil))))))), hM, hF⟩
                      · rw [if_neg (ne_true hc)] at hF
                        refine RL.gskip rfl rfl rfl rfl ?_
                        refine RL.gskip rfl rfl rfl rfl ?_
                        refine RL.gskip rfl rfl rfl rfl ?_
                        refine RL.gskip rfl rfl rfl rfl ?_
                        refine RL.gskip rfl rfl rfl rfl ?_
                        refine RL.gskip rfl rfl rfl rfl ?_
                        refine RL.gskip rfl rfl rfl rfl ?_
                        refine RL.gskip rfl rfl rfl rfl ?_
                        refine RL.val (O.pickf rfl rfl) rfl ?_
                        refine RL.val (O.assign rfl) rfl ?_
                        refine RL.nil ?_
                        refine KQ.then_k ?_
                        have hM := hM.pick [3, 2, 0, 1] rfl (by decide)
                        exact fun a ha => ⟨false, ha.less (less_cons rfl (less_cons rfl (less_cons rfl (less_cons rfl (less_cons rfl (less_cons rfl (less_cons rfl less_nil))))))), hM, hF⟩
                    · rw [if_neg (ne_true hc)] at hF
                      refine RL.gskip rfl rfl rfl rfl ?_
                      refine RL.gskip rfl rfl rfl rfl ?_
                      refine RL.gskip rfl rfl rfl rfl ?_
                      refine RL.gskip rfl rfl rfl rfl ?_
                      refine RL.gskip rfl rfl rfl rfl ?_
                      refine RL.val (O.pickf rfl rfl) rfl ?_
                      refine RL.val (O.move rfl) rfl ?_
                      refine RL.gskip rfl rfl rfl rfl ?_
                      refine RL.gskip rfl rfl rfl rfl ?_
                      refine RL.gskip rfl rfl rfl rfl ?_
                      refine RL.gskip rfl rfl rfl rfl ?_
                      refine RL.gskip rfl rfl rfl rfl ?_
                      refine RL.gskip rfl rfl rfl rfl ?_
                      refine RL.gskip rfl rfl rfl rfl ?_
                      refine RL.gskip rfl rfl rfl rfl ?_
                      refine RL.val (O.pickf rfl rfl) rfl ?_
                      refine RL.val (O.assign rfl) rfl ?_
                      refine RL.nil ?_
                      refine KQ.then_k ?_
                      have hM := hM.pick [3, 2, 0, 1] rfl (by decide)
                      exact fun a ha => ⟨false, ha.less (less_cons rfl (less_cons rfl (less_cons rfl (less_cons rfl (less_cons rfl (less_cons rfl (less_cons rfl less_nil))))))), hM, hF⟩
                  · rw [if_neg (ne_true hc)] at hF
                    refine RL.gskip rfl rfl rfl rfl ?_
                    refine RL.gskip rfl rfl rfl rfl ?_
                    refine RL.gskip rfl rfl rfl rfl ?_
                    refine RL.val (O.pickf rfl rfl) rfl ?_
                    refine RL.val (O.move rfl) rfl ?_
                    refine RL.gskip rfl rfl rfl rfl ?_
                    refine RL.gskip rfl rfl rfl rfl ?_
                    refine RL.gskip rfl rfl rfl rfl ?_
                    refine RL.gskip rfl rfl rfl rfl ?_
                    refine RL.gskip rfl rfl rfl rfl ?_
                    refine RL.val (O.pickf rfl rfl) rfl ?_
                    refine RL.val (O.move rfl) rfl ?_
                    refine RL.gskip rfl rfl rfl rfl ?_
                    refine RL.gskip rfl rfl rfl rfl ?_
                    refine RL.gskip rfl rfl rfl rfl ?_
                    refine RL.gskip rfl rfl rfl rfl ?_
                    refine RL.gskip rfl rfl rfl rfl ?_
                    refine RL.gskip rfl rfl rfl rfl ?_
                    refine RL.gskip rfl rfl rfl rfl ?_
                    refine RL.gskip rfl rfl rfl rfl ?_
                    refine RL.val (O.pickf rfl rfl) rfl ?_
                    refine RL.val (O.assign rfl) rfl ?_
                    refine RL.nil ?_
                    refine KQ.then_k ?_
                    have hM := hM.pick [3, 2, 0, 1] rfl (by decide)
                    exact fun a ha => ⟨false, ha.less (less_cons rfl (less_cons rfl (less_cons rfl (less_cons rfl (less_cons rfl (less_cons rfl (less_cons rfl less_nil))))))), hM, hF⟩
                · rintro a w670 ⟨may669, ha, hM, hF⟩
                  refine KC.app ha ?_
                  clear ha
                  unfold F_law01_BitsWrites_j4 at hF
                  refine KC.seq ?_
                  refine KC.cut (fun a w676 => ∃ (t675 : Bool), Kn 175 [(0, .slice A2 (lv1).length c3), (3, .pointer (some ⟨g13, 0, none⟩)), (4, .slice A536 (want538).length c537), (5, .int .i64 i539), (6, .pointer (some ⟨g553, 0, none⟩)), (12, .bool may669), (131, .bool t675)] a ∧ Mem w [] w676 [.row A662 c663 5 1 (y658.2.f_b).length ((y658.2.f_b).flatMap (eI .u8)), .box g13 33 [.slice A662 (y658.2.f_b).length c663], .row A536 c537 5 1 (want538).length ((want538).flatMap (eI .u8)), .box g553 35 [.int .i64 xv545.f_Do, .int .i64 xv545.f_At, .int .u64 xv545.f_V, .int .i64 xv545.f_Size, .slice A549 (xv545.f_B).length c550]] ∧ F_law01_BitsWrites_j5 want538 i539 (F_law01_BitsWrites_L1 lv1 k542) xv545 y658 may669 t675 = some r) ?_ ?_
                  · refine KC.region ?_
                    refine RL.val (O.move rfl) rfl ?_
                    refine RL.val (O.move rfl) rfl ?_
                    refine RL.val (O.eql rfl rfl) rfl ?_
                    refine RL.val (O.neqb Try.underlying4 rfl rfl) rfl ?_
                    refine RL.val (O.move rfl) rfl ?_
                    refine RL.bcase (t := 124) rfl (fun hc => ?_) (fun hc => ?_)
                    · rw [if_pos hc] at hF
                      refine RL.gskip rfl rfl rfl rfl ?_
                      refine RL.gskip rfl rfl rfl rfl ?_
                      refine RL.gskip rfl rfl rfl rfl ?_
                      refine RL.gskip' rfl rfl rfl ?_
                      refine RL.gskip' rfl rfl rfl ?_
                      refine RL.gskip rfl rfl rfl rfl ?_
                      refine RL.val (O.pickt rfl rfl) rfl ?_
                      refine RL.nil ?_
                      refine KQ.then_k ?_
                      exact fun a ha => ⟨true, ha.less (less_cons rfl (less_cons rfl (less_cons rfl (less_cons rfl (less_cons rfl (less_cons rfl (less_cons rfl less_nil))))))), hM, hF⟩
                    · rw [if_neg (ne_true hc)] at hF
                      refine RL.gval rfl rfl (O.move rfl) rfl ?_
                      refine RL.gval rfl rfl (O.not rfl) rfl ?_
                      refine RL.gval rfl rfl (O.move rfl) rfl ?_
                      refine RL.bcase (t := 127) rfl (fun hc => ?_) (fun hc => ?_)
                      · rw [if_pos hc] at hF
                        refine RL.gval rfl rfl (O.move rfl) rfl ?_
                        refine RL.gval rfl rfl (O.neq rfl rfl) rfl ?_
                        refine RL.gval rfl rfl (O.pickt rfl rfl) rfl ?_
                        refine RL.val (O.pickf rfl rfl) rfl ?_
                        refine RL.nil ?_
                        refine KQ.then_k ?_
                        exact fun a ha => ⟨(y658.1 != 2), ha.less (less_cons rfl (less_cons rfl (less_cons rfl (less_cons rfl (less_cons rfl (less_cons rfl (less_cons rfl less_nil))))))), hM, hF⟩
                      · rw [if_neg (ne_true hc)] at hF
                        refine RL.gskip rfl rfl rfl rfl ?_
                        refine RL.gskip rfl rfl rfl rfl ?_
                        refine RL.gval rfl rfl (O.pickf rfl rfl) rfl ?_
                        refine RL.val (O.pickf rfl rfl) rfl ?_
                        refine RL.nil ?_
                        refine KQ.then_k ?_
                        exact fun a ha => ⟨false, ha.less (less_cons rfl (less_cons rfl (less_cons rfl (less_cons rfl (less_cons rfl (less_cons rfl (less_cons rfl less_nil))))))), hM, hF⟩
                  · rintro a w676 ⟨t675, ha, hM, hF⟩
                    refine KC.app ha ?_
                    clear ha
                    unfold F_law01_BitsWrites_j5 at hF
                    refine KC.cond rfl (fun hc => ?_) (fun hc => ?_)
                    · rw [if_pos hc] at hF
                      refine KC.seq ?_
                      refine KC.region ?_
                      refine RL.val (O.assign rfl) rfl ?_
                      refine RL.nil ?_
                      refine KQ.then_n ?_
                      refine KC.ret ?_
                      refine KQ.then_r ?_
                      refine KQ.blk_r ?_
                      refine KQ.then_r ?_
                      refine KQ.blk_r ?_
                      refine KQ.then_r ?_
                      refine KQ.then_r ?_
                      refine KQ.blk_r ?_
                      refine KQ.then_r ?_
                      obtain rfl := Option.some.inj hF
                      have hM := hM.pick [] rfl (by decide)
                      refine KQ.rets Try.results4 (RVs.cons (RV.tm rfl) RVs.nil) ?_
                      exact ⟨_, rfl, rfl, hM⟩
                    · rw [if_neg (ne_true hc)] at hF
                      refine KC.skip ?_
                      refine KQ.then_n ?_
                      refine KC.seq ?_
                      refine KC.region ?_
                      refine RL.val (O.move rfl) rfl ?_
                      refine RL.nil ?_
                      refine KQ.then_n ?_
                      refine KC.cond rfl (fun hc => ?_) (fun hc => ?_)
                      · rw [if_pos hc] at hF
                        have hM := hM.drewN 1
                        refine KC.draw [] [8, 9, 17] (.ofList [0, 1, 2, 3, 4, 5, 6, 7, 10, 11, 12, 13, 14, 15, 16, 8, 9, 17, 18]) moP (by kernel_rfl) ?_
                        refine RD.q rfl rfl rfl (fun w' hf => O.move rfl) ?_
                        refine RD.q rfl rfl rfl (fun w' hf => O.fldA fl35_1 (by decide) rfl) ?_
                        refine RD.q rfl rfl rfl (fun w' hf => O.load sc3 rfl (Cs.adds [1] ((hM.bx (i := 3) rfl).fut hf) rfl)) ?_
                        obtain ⟨cut677, hy678, hF⟩ := obind hF
                        obtain ⟨A679, c680, eA682, ec683⟩ := cutN A536 c537 (Int.toNat 0) 1
                        have hr681 := Rd.cutT (enc := (eI .u8)) (s := 1) (fun _ => rfl) (hM.rd (i := 2) rfl) hy678 (m := c537) (by have := (hM.rd (i := 2) rfl).cap; have := (gcut_some hy678).2.2.1; omega) (Nat.le_refl _)
                        rw [← eA682, ← ec683] at hr681
                        refine RD.q (v := .slice A679 (cut677).length c680) rfl rfl rfl (fun w' hf => (by rw [eA682, ec683]; exact O.cuthT sl22 ((hM.rd (i := 2) rfl).fut hf) hy678 rfl rfl)) ?_
                        refine RD.q rfl rfl rfl (fun w' hf => O.fldA fl35_2 (by decide) rfl) ?_
                        refine RD.q rfl rfl rfl (fun w' hf => O.load sc23 rfl (Cs.adds [2] ((hM.bx (i := 3) rfl).fut hf) rfl)) ?_
                        refine RD.q rfl rfl rfl (fun w' hf => O.fldA fl35_3 (by decide) rfl) ?_
                        refine RD.q rfl rfl rfl (fun w' hf => O.load sc3 rfl (Cs.adds [3] ((hM.bx (i := 3) rfl).fut hf) rfl)) ?_
                        refine RD.q rfl rfl rfl (fun w' hf => O.move rfl) ?_
                        refine RD.q rfl rfl rfl (fun w' hf => O.fldA fl35_1 (by decide) rfl) ?_
                        refine RD.q rfl rfl rfl (fun w' hf => O.load sc3 rfl (Cs.adds [1] ((hM.bx (i := 3) rfl).fut hf) rfl)) ?_
                        refine RD.q rfl rfl rfl (fun w' hf => O.fldA fl35_3 (by decide) rfl) ?_
                        refine RD.q rfl rfl rfl (fun w' hf => O.load sc3 rfl (Cs.adds [3] ((hM.bx (i := 3) rfl).fut hf) rfl)) ?_
                        refine RD.q rfl rfl rfl (fun w' hf => O.add rfl rfl) ?_
                        obtain ⟨cut684, hy685, hF⟩ := obind hF
                        obtain ⟨A686, c687, eA689, ec690⟩ := cutN A536 c537 (Int.toNat (IntKind.i64.wrap (xv545.f_At + xv545.f_Size))) 1
                        have hr688 := Rd.cutT (enc := (eI .u8)) (s := 1) (fun _ => rfl) (hM.rd (i := 2) rfl) hy685 (m := c537) (by have := (hM.rd (i := 2) rfl).cap; have := (gcut_some hy685).2.2.1; omega) (Nat.le_refl _)
                        rw [← eA689, ← ec690] at hr688
                        refine RD.q (v := .slice A686 (cut684).length c687) rfl rfl rfl (fun w' hf => (by rw [eA689, ec690]; exact O.cutlT sl22 ((hM.rd (i := 2) rfl).fut hf) hy685 rfl rfl)) ?_
                        obtain ⟨y691, hx692, hF⟩ := obind hF
                        refine RD.mcall rfl rfl trivial Try.func19 bd19 rfl rfl (c_ref01_Put _ xv545.f_V xv545.f_Size _ hx692) fun v w693 hv => ?_
                        obtain ⟨A695, c696, rfl, hN694⟩ := hv
                        refine ⟨fun _ => hN694.fut, ?_⟩
                        have hr681 := hr681.fut hN694.fut
                        have hr688 := hr688.fut hN694.fut
                        have hM := hM.call hN694
                        obtain ⟨y698, hx699, hF⟩ := obind hF
                        refine RD.mcall rfl rfl trivial Try.func18 bd18 rfl rfl (c_ref01_Join _ _ _ cut677 hr681 _ _ y691 (hM.rd (i := 4) rfl) _ hx699) fun v w700 hv => ?_
                        obtain ⟨A702, c703, rfl, hN701⟩ := hv
                        refine ⟨fun _ => hN701.fut, ?_⟩
                        have hr681 := hr681.fut hN701.fut
                        have hr688 := hr688.fut hN701.fut
                        have hM := hM.call hN701
                        obtain ⟨y705, hx706, hF⟩ := obind hF
                        refine RD.mcall rfl rfl trivial Try.func18 bd18 rfl rfl (c_ref01_Join _ _ _ y698 (hM.rd (i := 5) rfl) _ _ cut684 hr688 _ hx706) fun v w707 hv => ?_
                        obtain ⟨A709, c710, rfl, hN708⟩ := hv
                        refine ⟨fun _ => hN708.fut, ?_⟩
                        have hr681 := hr681.fut hN708.fut
                        have hr688 := hr688.fut hN708.fut
                        have hM := hM.call hN708
                        refine RD.q rfl rfl rfl (fun w' hf => O.assign rfl) ?_
                        refine RD.nil ?_
                        refine KQ.blk_n ?_
                        refine KQ.then_k ?_
                        have hM := hM.pick [0, 1, 6] rfl (by decide)
                        exact fun a ha => ⟨A662, c663, A709, c710, y658.2.f_b, y705, ha.less (less_cons rfl (less_cons rfl (less_cons rfl (less_cons rfl less_nil)))), hM, hF⟩
                      · rw [if_neg (ne_true hc)] at hF
                        refine KC.skip ?_
                        refine KQ.blk_n ?_
                        refine KQ.then_k ?_
                        have hM := hM.pick [0, 1, 2] rfl (by decide)
                        exact fun a ha => ⟨A662, c663, A536, c537, y658.2.f_b, want538, ha.less (less_cons rfl (less_cons rfl (less_cons rfl (less_cons rfl less_nil)))), hM, hF⟩
              · rw [if_neg (ne_true hc)] at hF
                refine KC.skip ?_
                refine KQ.blk_n ?_
                refine KQ.then_k ?_
                have hM := hM.pick [0, 1, 2] rfl (by decide)
                exact fun a ha => ⟨A532, c533, A536, c537, wv534, want538, ha.less (less_cons rfl (less_cons rfl (less_cons rfl (less_cons rfl less_nil)))), hM, hF⟩
        · rintro a w721 ⟨A714, c715, A718, c719, wv716, want720, ha, hM, hF⟩
          refine KC.app ha ?_
          clear ha
          unfold F_law01_BitsWrites_j1 at hF
          refine KC.seq ?_
          refine KC.region ?_
          obtain ⟨y722, hx723, hF⟩ := obind hF
          refine RL.call Try.func22 bd22 rfl rfl (c_bits_Writer_Bytes _ _ (T_bits_Writer.mk wv716) _ _ (hM.lent [1, 0] rfl (by decide)) _ hx723) fun v w724 hv => ?_
          obtain ⟨A726, c727, A729, c730, rfl, hN725⟩ := hv
          have hM := hM.callL [1, 0] [2] rfl rfl (by decide) rfl hN725
          refine RL.val (O.assign rfl) rfl ?_
          refine RL.nil ?_
          refine KQ.then_n ?_
          refine KC.seq ?_
          refine KC.cut (fun a w751 => ∃ (A745 : Option Addr) (c746 : Nat) (wv747 : List Int) (t750 : Bool), Kn 175 [(0, .slice A2 (lv1).length c3), (3, .pointer (some ⟨g13, 0, none⟩)), (4, .slice A718 (want720).length c719), (5, .int .i64 i539), (13, .slice A729 (y722.1).length c730), (161, .bool t750)] a ∧ Mem w [] w751 [.row A745 c746 5 1 (wv747).length ((wv747).flatMap (eI .u8)), .box g13 33 [.slice A745 (wv747).length c746], .row A718 c719 5 1 (want720).length ((want720).flatMap (eI .u8)), .row A729 c730 5 1 (y722.1).length ((y722.1).flatMap (eI .u8))] ∧ F_law01_BitsWrites_j2 i539 (F_law01_BitsWrites_L1 lv1 k542) want720 y722 wv747 t750 = some r) ?_ ?_
          · refine KC.region ?_
            refine RL.val (O.move rfl) rfl ?_
            refine RL.val (O.move rfl) rfl ?_
            obtain ⟨y732, hx733, hF⟩ := obind hF
            refine RL.call Try.func23 bd23 rfl rfl (c_ref01_Same _ _ _ y722.1 (hM.rd (i := 3) rfl) _ _ want720 (hM.rd (i := 0) rfl) _ hx733) fun v w734 hv => ?_
            obtain ⟨rfl, hN735⟩ := hv
            have hM := hM.call0 hN735
            refine RL.val (O.not rfl) rfl ?_
            refine RL.val (O.move rfl) rfl ?_
            refine RL.bcase (t := 156) rfl (fun hc => ?_) (fun hc => ?_)
            · rw [if_pos hc] at hF
              refine RL.gskip rfl rfl rfl rfl ?_
              refine RL.gskip rfl rfl rfl rfl ?_
              refine RL.gskip rfl rfl rfl rfl ?_
              refine RL.gskip rfl rfl rfl rfl ?_
              refine RL.val (O.pickt rfl rfl) rfl ?_
              refine RL.nil ?_
              refine KQ.then_k ?_
              have hM := hM.pick [2, 1, 0, 3] rfl (by decide)
              exact fun a ha => ⟨A726, c727, y722.2.f_b, true, ha.less (less_cons rfl (less_cons rfl (less_cons rfl (less_cons rfl (less_cons rfl (less_cons rfl less_nil)))))), hM, hF⟩
            · rw [if_neg (ne_true hc)] at hF
              obtain ⟨y736, hx737, hF⟩ := obind hF
              refine RL.gcall rfl rfl Try.func24 bd24 rfl rfl (c_bits_Writer_Len _ _ y722.2 _ _ (hM.lent [1, 2] rfl (by decide)) _ hx737) fun v w738 hv => ?_
              obtain ⟨A740, c741, rfl, hN739⟩ := hv
              have hM := hM.callL [1, 2] [0, 3] rfl rfl (by decide) rfl hN739
              refine RL.gval rfl rfl (O.move rfl) rfl ?_
              refine RL.gval rfl rfl (O.len sl22 rfl) rfl ?_
              refine RL.gval rfl rfl (O.neq rfl rfl) rfl ?_
              refine RL.val (O.pickf rfl rfl) rfl ?_
              refine RL.nil ?_
              refine KQ.then_k ?_
              have hM := hM.pick [3, 2, 0, 1] rfl (by decide)
              exact fun a ha => ⟨A740, c741, y736.2.f_b, (y736.1 != (want720.length : Int)), ha.less (less_cons rfl (less_cons rfl (less_cons rfl (less_cons rfl (less_cons rfl (less_cons rfl less_nil)))))), hM, hF⟩
          · rintro a w751 ⟨A745, c746, wv747, t750, ha, hM, hF⟩
            refine KC.app ha ?_
            clear ha
            unfold F_law01_BitsWrites_j2 at hF
            refine KC.cond rfl (fun hc => ?_) (fun hc => ?_)
            · rw [if_pos hc] at hF
              refine KC.seq ?_
              refine KC.region ?_
              refine RL.val (O.assign rfl) rfl ?_
              refine RL.nil ?_
              refine KQ.then_n ?_
              refine KC.ret ?_
              refine KQ.then_r ?_
              refine KQ.blk_r ?_
              refine KQ.then_r ?_
              refine KQ.then_r ?_
              refine KQ.blk_r ?_
              refine KQ.then_r ?_
              obtain rfl := Option.some.inj hF
              have hM := hM.pick [] rfl (by decide)
              refine KQ.rets Try.results4 (RVs.cons (RV.tm rfl) RVs.nil) ?_
              exact ⟨_, rfl, rfl, hM⟩
            · rw [if_neg (ne_true hc)] at hF
              refine KC.skip ?_
              refine KQ.then_n ?_
              refine KC.seq ?_
              refine KC.region ?_
              refine RL.val (O.assign rfl) rfl ?_
              refine RL.nil ?_
              refine KQ.then_n ?_
              refine KC.block ?_
              refine KC.loop (fun k786 a w784 => ∃ (A780 : Option Addr) (c781 : Nat) (b782 : List Int) (kv783 : Int), Kn 175 [(0, .slice A2 (lv1).length c3), (3, .pointer (some ⟨g13, 0, none⟩)), (4, .slice A718 (want720).length c719), (5, .int .i64 i539), (13, .slice A780 (b782).length c781), (14, .int .i64 kv783)] a ∧ Mem w [] w784 [.row A745 c746 5 1 (wv747).length ((wv747).flatMap (eI .u8)), .box g13 33 [.slice A745 (wv747).length c746], .row A718 c719 5 1 (want720).length ((want720).flatMap (eI .u8)), .row A780 c781 5 1 (b782).length ((b782).flatMap (eI .u8))] ∧ F_law01_BitsWrites_L2 i539 (F_law01_BitsWrites_L1 lv1 k542) want720 wv747 k786 b782 kv783 = some r) ?_ ?_
              · exact fun a ha => ⟨fuel0, A729, c730, y722.1, 0, ha.less (less_cons rfl (less_cons rfl (less_cons rfl (less_cons rfl (less_cons rfl (less_cons rfl less_nil)))))), hM, hF⟩
              · rintro k786 a w784 ⟨A780, c781, b782, kv783, ha, hM, hF⟩
                refine KC.app ha ?_
                clear ha
                cases k786 with
                | zero => exact (none_some hF).elim
                | succ k786 =>
                have hF : F_law01_BitsWrites_l2 (F_law01_BitsWrites_L2 i539 (F_law01_BitsWrites_L1 lv1 k542) want720 wv747 k786) i539 (F_law01_BitsWrites_L1 lv1 k542) want720 wv747 b782 kv783 = some r := hF
                unfold F_law01_BitsWrites_l2 at hF
                refine KC.seq ?_
                refine KC.seq ?_
                refine KC.region ?_
                refine RL.val (O.move rfl) rfl ?_
                refine RL.val (O.move rfl) rfl ?_
                refine RL.val (O.len sl22 rfl) rfl ?_
                refine RL.val (O.lss rfl rfl) rfl ?_
                refine RL.nil ?_
                refine KQ.then_n ?_
                refine KC.cond rfl (fun hc => ?_) (fun hc => ?_)
                · rw [if_pos hc] at hF
                  refine KC.skip ?_
                  refine KQ.then_n ?_
                  refine KC.seq ?_
                  refine KC.block ?_
                  refine KC.region ?_
                  refine RL.val (O.move rfl) rfl ?_
                  refine RL.val (O.move rfl) rfl ?_
                  obtain ⟨xv789, hx788, hF⟩ := obind hF
                  have hA787 := Rd.atN (f := (eI .u8)) (s := 1) (fun _ => rfl) (by decide) (hM.rd (i := 3) rfl) hx788
                  refine RL.val (O.idxA sl22 (hA787) rfl rfl) rfl ?_
                  refine RL.val (O.load sc5 rfl (hA787).cells.at0) rfl ?_
                  refine RL.val (O.add rfl rfl) rfl ?_
                  obtain ⟨xv792, hx791, hF⟩ := obind hF
                  have hA790 := Rd.atN (f := (eI .u8)) (s := 1) (fun _ => rfl) (by decide) (hM.rd (i := 3) rfl) hx791
                  refine RL.val (O.idxA sl22 (hA790) rfl rfl) rfl ?_
                  refine RL.effs (E.stR (enc := (eI .u8)) (j := 3) (off := 0) (vs := [.int .u8 (IntKind.u8.wrap (xv789 + 1))]) (x' := (IntKind.u8.wrap (xv789 + 1))) hM rfl (fun _ => rfl) hx791 sz5 rfl (addsR_eq [] rfl) rfl rfl (One.all rfl) rfl rfl) fun w793 hM => ?_
                  obtain ⟨hM, hn794⟩ := hM
                  refine RL.reslot (t := 13) rfl hn794 ?_
                  refine RL.reslot (t := 163) rfl hn794 ?_
                  refine RL.reslot (t := 168) rfl hn794 ?_
                  refine RL.nil ?_
                  refine KQ.blk_n ?_
                  refine KQ.then_n ?_
                  refine KC.region ?_
                  refine RL.val (O.move rfl) rfl ?_
                  refine RL.val (O.add rfl rfl) rfl ?_
                  refine RL.val (O.assign rfl) rfl ?_
                  refine RL.nil ?_
                  refine KQ.then_k ?_
                  exact fun a ha => ⟨k786, Nat.lt_succ_self k786, A780, c781, (b782.set (kv783).toNat (IntKind.u8.wrap (xv789 + 1))), (IntKind.i64.wrap (kv783 + 1)), ha.less (less_cons rfl (less_cons rfl (less_cons rfl (less_cons rfl (less_cons rfl (less_cons rfl less_nil)))))), hM, hF⟩
                · rw [if_neg (ne_true hc)] at hF
                  refine KC.exit ?_
                  refine KQ.then_x ?_
                  refine KQ.then_x ?_
                  refine KQ.blk_x ?_
                  refine KQ.blk_n ?_
                  refine KQ.then_n ?_
                  refine KC.region ?_
                  refine RL.val (O.move rfl) rfl ?_
                  refine RL.val (O.add rfl rfl) rfl ?_
                  refine RL.val (O.assign rfl) rfl ?_
                  refine RL.nil ?_
                  refine KQ.then_k ?_
                  have hM := hM.pick [0, 1, 2] rfl (by decide)
                  exact fun a ha => ⟨k542, Nat.lt_succ_self k542, A745, c746, A718, c719, wv747, want720, (IntKind.i64.wrap (i539 + 1)), ha.less (less_cons rfl (less_cons rfl (less_cons rfl (less_cons rfl less_nil)))), hM, hF⟩
      · rw [if_neg (ne_true hc)] at hF
        refine KC.exit ?_
        refine KQ.then_x ?_
        refine KQ.then_x ?_
        refine KQ.blk_x ?_
        refine KQ.then_n ?_
        refine KC.seq ?_
        refine KC.region ?_
        obtain ⟨y795, hx796, hF⟩ := obind hF
        refine RL.call Try.func9 bd9 rfl rfl (c_law01_works _ _ hx796) fun v w797 hv => ?_
        obtain ⟨rfl, hN798⟩ := hv
        have hM := hM.call0 hN798
        refine RL.val (O.assign rfl) rfl ?_
        refine RL.nil ?_
        refine KQ.then_n ?_
        refine KC.ret ?_
        obtain rfl := Option.some.inj hF
        have hM := hM.pick [] rfl (by decide)
        refine KQ.rets Try.results4 (RVs.cons (RV.tm rfl) RVs.nil) ?_
        exact ⟨_, rfl, rfl, hM⟩
set_option maxRecDepth 100000 in
set_option maxHeartbeats 40000000 in
theorem c_bits_Read (w : World) (A2 : Option Addr) (c3 : Nat) (b1 : List Int) (hr4 : Rd w A2 c3 1 b1.length (b1.flatMap (eI .u8))) (r : T_bits_Reader) (hF : F_bits_Read b1 = some r) :
    CallsR Try.prog 25 [.slice A2 (b1).length c3] w (fun v w' => ∃ (g0 : Nat) (A1 : Option Addr) (c1 : Nat), v = .pointer (some ⟨g0, 0, none⟩) ∧ Mem w [] w' [.box g0 64 [.slice A1 (r.f_b).length c1, .int .i64 r.f_at], .row A1 c1 5 1 r.f_b.length (r.f_b.flatMap (eI .u8))]) := by
  refine calls_KC Try.func25 rfl Try.ntmps25 rfl ?_
  have hM := Mem.init w
  unfold F_bits_Read at hF
  refine KC.seq ?_
  refine KC.region ?_
  refine RL.val (O.assign rfl) rfl ?_
  refine RL.nil ?_
  refine KQ.then_n ?_
  refine KC.seq ?_
  refine KC.region ?_
  refine RL.val (O.move rfl) rfl ?_
  obtain ⟨y5, hx6, hF⟩ := obind hF
  refine RL.call Try.func35 bd35 rfl rfl (c_slices_Clone_byte_byte _ _ _ b1 (hM.inp hr4 Off.nil) _ hx6) fun v w7 hv => ?_
  obtain ⟨A9, c10, rfl, hN8⟩ := hv
  have hM := hM.call hN8
  refine RL.val (O.bld (cs := [.slice A9 (y5).length c10, .int .i64 0]) bt64 rfl (by kernel_rfl)) rfl ?_
  refine RL.eff (E.box (vs := [.slice A9 (y5).length c10, .int .i64 0]) hM rfl rfl) rfl fun v w13 hv => ?_
  obtain ⟨g12, rfl, hM, hf⟩ := hv
  refine RL.val (O.assign rfl) rfl ?_
  refine RL.nil ?_
  refine KQ.then_n ?_
  refine KC.ret ?_
  obtain rfl := Option.some.inj hF
  have hM := hM.pick [1, 0] rfl (by decide)
  refine KQ.rets Try.results25 (RVs.cons (RV.tm rfl) RVs.nil) ?_
  exact ⟨_, rfl, g12, A9, c10, rfl, hM⟩
set_option maxRecDepth 100000 in
set_option maxHeartbeats 40000000 in
theorem c_bits_Reader_Get (w : World) (g2 : Nat) (rv1 : T_bits_Reader) (A4 : Option Addr) (c5 : Nat) (hL8 : Lent w [.box g2 64 [.slice A4 (rv1.f_b).length c5, .int .i64 rv1.f_at], .row A4 c5 5 1 (rv1.f_b).length ((rv1.f_b).flatMap (eI .u8))]) (size7 : Int) (r : Int × Int × T_bits_Reader) (hF : F_bits_Reader_Get rv1 size7 = some r) :
    CallsR Try.prog 26 [.pointer (some ⟨g2, 0, none⟩), .int .i64 size7] w (fun v w' => ∃ (A0 : Option Addr) (c0 : Nat), v = .tuple #[.int .u64 r.1, .int .i64 r.2.1] ∧ Mem w [some g2, rblk A4 c5] w' [.box g2 64 [.slice A0 (r.2.2.f_b).length c0, .int .i64 r.2.2.f_at], .row A0 c0 5 1 r.2.2.f_b.length (r.2.2.f_b.flatMap (eI .u8))]) := by
  refine calls_KC Try.func26 rfl Try.ntmps26 rfl ?_
  have hM : Mem w [some g2, rblk A4 c5] w [.box g2 64 [.slice A4 (rv1.f_b).length c5, .int .i64 rv1.f_at], .row A4 c5 5 1 (rv1.f_b).length ((rv1.f_b).flatMap (eI .u8))] := Mem.lendN hL8
  unfold F_bits_Reader_Get at hF
  refine KC.seq ?_
  refine KC.region ?_
  refine RL.val (O.assign rfl) rfl ?_
  refine RL.val (O.assign rfl) rfl ?_
  refine RL.nil ?_
  refine KQ.then_n ?_
  refine KC.seq ?_
  refine KC.seq ?_
  refine KC.region ?_
  refine RL.val (O.move rfl) rfl ?_
  refine RL.val (O.peqn Try.underlying49 rfl rfl) rfl ?_
  refine RL.nil ?_
  refine KQ.then_n ?_
  refine KC.condF rfl ?_
  refine KC.skip ?_
  refine KQ.then_n ?_
  refine KC.seq ?_
  have hM := hM.drewN 1
  refine KC.draw [] [9] (.ofList [0, 1, 2, 3, 4, 5, 6, 7, 8, 9, 10, 11, 12, 13, 14]) moP (by kernel_rfl) ?_
  refine RD.q rfl rfl rfl (fun w' hf => O.move rfl) ?_
  refine RD.q rfl rfl rfl (fun w' hf => O.nilp rfl) ?_
  refine RD.q rfl rfl rfl (fun w' hf => O.fldA fl64_0 (by decide) rfl) ?_
  refine RD.q rfl rfl rfl (fun w' hf => O.load sc22 rfl (Cs.adds [0] ((hM.bx (i := 0) rfl).fut hf) rfl)) ?_
  refine RD.q rfl rfl rfl (fun w' hf => O.move rfl) ?_
  refine RD.q rfl rfl rfl (fun w' hf => O.nilp rfl) ?_
  refine RD.q rfl rfl rfl (fun w' hf => O.fldA fl64_1 (by decide) rfl) ?_
  refine RD.q rfl rfl rfl (fun w' hf => O.load sc3 rfl (Cs.adds [1] ((hM.bx (i := 0) rfl).fut hf) rfl)) ?_
  refine RD.q rfl rfl rfl (fun w' hf => O.move rfl) ?_
  obtain ⟨y9, hx10, hF⟩ := obind hF
  refine RD.mcall rfl rfl trivial Try.func10 bd10 rfl rfl (c_bits_Get _ _ _ rv1.f_b (hM.rd (i := 1) rfl) rv1.f_at size7 _ hx10) fun v w11 hv => ?_
  obtain ⟨rfl, hN12⟩ := hv
  refine ⟨fun _ => hN12.fut, ?_⟩
  have hM := hM.call0 hN12
  refine RD.q rfl rfl rfl (fun w' hf => O.move rfl) ?_
  refine RD.q rfl rfl rfl (fun w' hf => O.ext rfl rfl) ?_
  refine RD.q rfl rfl rfl (fun w' hf => O.ext rfl rfl) ?_
  refine RD.q rfl rfl rfl (fun w' hf => O.assign rfl) ?_
  refine RD.q rfl rfl rfl (fun w' hf => O.assign rfl) ?_
  refine RD.nil ?_
  refine KQ.then_n ?_
  refine KC.cut (fun a w17 => ∃ (p16 : Int), Kn 35 [(6, .int .u64 y9.1), (7, .int .i64 y9.2)] a ∧ Mem w [some g2, rblk A4 c5] w17 [.row A4 c5 5 1 (rv1.f_b).length ((rv1.f_b).flatMap (eI .u8)), .box g2 64 [.slice A4 (rv1.f_b).length c5, .int .i64 p16]] ∧ F_bits_Reader_Get_j1 rv1 y9 p16 = some r) ?_ ?_
  · refine KC.seq ?_
    refine KC.region ?_
    refine RL.val (O.move rfl) rfl ?_
    refine RL.val (O.eql rfl rfl) rfl ?_
    refine RL.nil ?_
    refine KQ.then_n ?_
    refine KC.cond rfl (fun hc => ?_) (fun hc => ?_)
    · rw [if_pos hc] at hF
      refine KC.region ?_
      refine RL.val (O.move rfl) rfl ?_
      refine RL.val (O.nilp rfl) rfl ?_
      refine RL.val (O.fldA fl64_1 (by decide) rfl) rfl ?_
      refine RL.val (O.load sc3 rfl (Cs.adds [1] ((hM.bx (i := 0) rfl)) rfl)) rfl ?_
      refine RL.val (O.move rfl) rfl ?_
      refine RL.val (O.add rfl rfl) rfl ?_
      refine RL.val (O.nilp rfl) rfl ?_
      refine RL.val (O.fldA fl64_1 (by decide) rfl) rfl ?_
      refine RL.effs (E.stB (j := 0) (off := 1) (vs := [.int .i64 (IntKind.i64.wrap (rv1.f_at + size7))]) (cs' := [.slice A4 (rv1.f_b).length c5, .int .i64 (IntKind.i64.wrap (rv1.f_at + size7))]) hM rfl sz3 rfl (adds_eq [1] rfl) rfl rfl (One.all rfl) rfl rfl) fun w13 hM => ?_
      refine RL.nil ?_
      refine KQ.then_k ?_
      have hM := hM.pick [1, 0] rfl (by decide)
      exact fun a ha => ⟨(IntKind.i64.wrap (rv1.f_at + size7)), ha.less (less_cons rfl (less_cons rfl less_nil)), hM, hF⟩
    · rw [if_neg (ne_true hc)] at hF
      refine KC.skip ?_
      refine KQ.then_k ?_
      have hM := hM.pick [1, 0] rfl (by decide)
      exact fun a ha => ⟨rv1.f_at, ha.less (less_cons rfl (less_cons rfl less_nil)), hM, hF⟩
  · rintro a w17 ⟨p16, ha, hM, hF⟩
    refine KC.app ha ?_
    clear ha
    unfold F_bits_Reader_Get_j1 at hF
    refine KC.seq ?_
    refine KC.region ?_
    refine RL.val (O.move rfl) rfl ?_
    refine RL.val (O.move rfl) rfl ?_
    refine RL.val (O.assign rfl) rfl ?_
    refine RL.val (O.assign rfl) rfl ?_
    refine RL.nil ?_
    refine KQ.then_n ?_
    refine KC.ret ?_
    obtain rfl := Option.some.inj hF
    have hM := hM.pick [1, 0] rfl (by decide)
    refine KQ.rets Try.results26 (RVs.cons (RV.tm rfl) (RVs.cons (RV.tm rfl) RVs.nil)) ?_
    exact ⟨_, rfl, A4, c5, rfl, hM⟩
end Go.Proofs.Ytpbkjellpboefaa
