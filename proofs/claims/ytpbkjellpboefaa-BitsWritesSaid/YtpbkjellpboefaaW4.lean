/- Printed by a program of this claim: each call returns what the plain function of its name gives. -/
import Derived.Test.YtpbkjellpboefaaW3
set_option linter.unusedVariables false
namespace Go.Proofs.Ytpbkjellpboefaa
open Go Go.Ox Go.RowKit
set_option maxRecDepth 100000 in
set_option maxHeartbeats 40000000 in
theorem c_bits_Reader_Left (w : World) (g2 : Nat) (rv1 : T_bits_Reader) (A4 : Option Addr) (c5 : Nat) (hL7 : Lent w [.box g2 64 [.slice A4 (rv1.f_b).length c5, .int .i64 rv1.f_at], .row A4 c5 5 1 (rv1.f_b).length ((rv1.f_b).flatMap (eI .u8))]) (r : Int × T_bits_Reader) (hF : F_bits_Reader_Left rv1 = some r) :
    CallsR Try.prog 27 [.pointer (some ⟨g2, 0, none⟩)] w (fun v w' => ∃ (A0 : Option Addr) (c0 : Nat), v = .int .i64 r.1 ∧ Mem w [some g2, rblk A4 c5] w' [.box g2 64 [.slice A0 (r.2.f_b).length c0, .int .i64 r.2.f_at], .row A0 c0 5 1 r.2.f_b.length (r.2.f_b.flatMap (eI .u8))]) := by
  refine calls_KC Try.func27 rfl Try.ntmps27 rfl ?_
  have hM : Mem w [some g2, rblk A4 c5] w [.box g2 64 [.slice A4 (rv1.f_b).length c5, .int .i64 rv1.f_at], .row A4 c5 5 1 (rv1.f_b).length ((rv1.f_b).flatMap (eI .u8))] := Mem.lendN hL7
  unfold F_bits_Reader_Left at hF
  refine KC.seq ?_
  refine KC.region ?_
  refine RL.val (O.assign rfl) rfl ?_
  refine RL.nil ?_
  refine KQ.then_n ?_
  refine KC.seq ?_
  refine KC.seq ?_
  refine KC.region ?_
  refine RL.val (O.move rfl) rfl ?_
  refine RL.val (O.peqn Try.underlying49 rfl rfl) rfl ?_
  refine RL.nil ?_
  refine KQ.then_n ?_
  refine KC.condF rfl ?_
  refine KC.skip ?_
  refine KQ.then_n ?_
  refine KC.seq ?_
  have hM := hM.drewN 1
  refine KC.draw [] [] (.ofList [0, 1, 2, 3, 4, 5, 6, 7, 8, 9, 10]) moP (by kernel_rfl) ?_
  refine RD.q rfl rfl rfl (fun w' hf => O.move rfl) ?_
  refine RD.q rfl rfl rfl (fun w' hf => O.nilp rfl) ?_
  refine RD.q rfl rfl rfl (fun w' hf => O.fldA fl64_0 (by decide) rfl) ?_
  refine RD.q rfl rfl rfl (fun w' hf => O.load sc22 rfl (Cs.adds [0] ((hM.bx (i := 0) rfl).fut hf) rfl)) ?_
  refine RD.q rfl rfl rfl (fun w' hf => O.len sl22 rfl) ?_
  refine RD.q rfl rfl rfl (fun w' hf => O.move rfl) ?_
  refine RD.q rfl rfl rfl (fun w' hf => O.nilp rfl) ?_
  refine RD.q rfl rfl rfl (fun w' hf => O.fldA fl64_1 (by decide) rfl) ?_
  refine RD.q rfl rfl rfl (fun w' hf => O.load sc3 rfl (Cs.adds [1] ((hM.bx (i := 0) rfl).fut hf) rfl)) ?_
  refine RD.q rfl rfl rfl (fun w' hf => O.sub rfl rfl) ?_
  refine RD.q rfl rfl rfl (fun w' hf => O.assign rfl) ?_
  refine RD.nil ?_
  refine KQ.then_n ?_
  refine KC.ret ?_
  obtain rfl := Option.some.inj hF
  refine KQ.rets Try.results27 (RVs.cons (RV.tm rfl) RVs.nil) ?_
  exact ⟨_, rfl, A4, c5, rfl, hM⟩
set_option maxRecDepth 100000 in
set_option maxHeartbeats 40000000 in
theorem c_law01_BitsBack (w : World) (A2 : Option Addr) (c3 : Nat) (lv1 : List Int) (hr4 : Rd w A2 c3 1 lv1.length (lv1.flatMap (eI .u64))) (A6 : Option Addr) (c7 : Nat) (sizes5 : List Int) (hr8 : Rd w A6 c7 1 sizes5.length (sizes5.flatMap (eI .i64))) (atv9 : Int) (v10 : Int) (r : Bool) (hF : F_law01_BitsBack lv1 sizes5 atv9 v10 = some r) :
    CallsR Try.prog 5 [.slice A2 (lv1).length c3, .slice A6 (sizes5).length c7, .int .i64 atv9, .int .u64 v10] w (fun v w' => v = .bool r ∧ Mem w [] w' []) := by
  refine calls_KC Try.func5 rfl Try.ntmps5 rfl ?_
  have hM := Mem.init w
  unfold F_law01_BitsBack at hF
  refine KC.seq ?_
  refine KC.region ?_
  refine RL.val (O.assign rfl) rfl ?_
  refine RL.nil ?_
  refine KQ.then_n ?_
  refine KC.seq ?_
  refine KC.cut (fun a w12 => ∃ (t11 : Bool), Kn 189 [(0, .slice A2 (lv1).length c3), (1, .slice A6 (sizes5).length c7), (2, .int .i64 atv9), (3, .int .u64 v10), (32, .bool t11)] a ∧ Mem w [] w12 [] ∧ F_law01_BitsBack_j1 lv1 sizes5 atv9 v10 t11 = some r) ?_ ?_
  · refine KC.region ?_
    refine RL.val (O.move rfl) rfl ?_
    refine RL.val (O.len sl47 rfl) rfl ?_
    refine RL.val (O.gtr rfl rfl) rfl ?_
    refine RL.val (O.move rfl) rfl ?_
    refine RL.bcase (t := 26) rfl (fun hc => ?_) (fun hc => ?_)
    · rw [if_pos hc] at hF
      refine RL.gskip rfl rfl rfl rfl ?_
      refine RL.gskip rfl rfl rfl rfl ?_
      refine RL.gskip rfl rfl rfl rfl ?_
      refine RL.gskip rfl rfl rfl rfl ?_
      refine RL.gskip rfl rfl rfl rfl ?_
      refine RL.val (O.pickt rfl rfl) rfl ?_
      refine RL.nil ?_
      refine KQ.then_k ?_
      exact fun a ha => ⟨true, ha.less (less_cons rfl (less_cons rfl (less_cons rfl (less_cons rfl (less_cons rfl less_nil))))), hM, hF⟩
    · rw [if_neg (ne_true hc)] at hF
      refine RL.gval rfl rfl (O.move rfl) rfl ?_
      refine RL.gval rfl rfl (O.len sl48 rfl) rfl ?_
      refine RL.gval rfl rfl (O.move rfl) rfl ?_
      refine RL.gval rfl rfl (O.len sl47 rfl) rfl ?_
      refine RL.gval rfl rfl (O.lss rfl rfl) rfl ?_
      refine RL.val (O.pickf rfl rfl) rfl ?_
      refine RL.nil ?_
      refine KQ.then_k ?_
      exact fun a ha => ⟨(decide ((sizes5.length : Int) < (lv1.length : Int))), ha.less (less_cons rfl (less_cons rfl (less_cons rfl (less_cons rfl (less_cons rfl less_nil))))), hM, hF⟩
  · rintro a w12 ⟨t11, ha, hM, hF⟩
    refine KC.app ha ?_
    clear ha
    unfold F_law01_BitsBack_j1 at hF
    refine KC.cond rfl (fun hc => ?_) (fun hc => ?_)
    · rw [if_pos hc] at hF
      refine KC.seq ?_
      refine KC.region ?_
      obtain ⟨y13, hx14, hF⟩ := obind hF
      refine RL.call Try.func9 bd9 rfl rfl (c_law01_works _ _ hx14) fun v w15 hv => ?_
      obtain ⟨rfl, hN16⟩ := hv
      have hM := hM.call0 hN16
      refine RL.val (O.assign rfl) rfl ?_
      refine RL.nil ?_
      refine KQ.then_n ?_
      refine KC.ret ?_
      refine KQ.then_r ?_
      obtain rfl := Option.some.inj hF
      refine KQ.rets Try.results5 (RVs.cons (RV.tm rfl) RVs.nil) ?_
      exact ⟨_, rfl, rfl, hM⟩
    · rw [if_neg (ne_true hc)] at hF
      refine KC.skip ?_
      refine KQ.then_n ?_
      refine KC.seq ?_
      refine KC.region ?_
      refine RL.eff (E.alloc hM ze33) rfl fun v w18 hv => ?_
      obtain ⟨g17, rfl, hM, hf⟩ := hv
      refine RL.nil ?_
      refine KQ.then_n ?_
      refine KC.seq ?_
      refine KC.seq ?_
      refine KC.region ?_
      refine RL.val (O.assign rfl) rfl ?_
      refine RL.nil ?_
      refine KQ.then_n ?_
      refine KC.block ?_
      refine KC.loop (fun k83 a w81 => ∃ (A77 : Option Addr) (c78 : Nat) (wv79 : List Int) (i80 : Int), Kn 189 [(0, .slice A2 (lv1).length c3), (1, .slice A6 (sizes5).length c7), (2, .int .i64 atv9), (3, .int .u64 v10), (9, .pointer (some ⟨g17, 0, none⟩)), (10, .int .i64 i80)] a ∧ Mem w [] w81 [.row A77 c78 5 1 (wv79).length ((wv79).flatMap (eI .u8)), .box g17 33 [.slice A77 (wv79).length c78]] ∧ F_law01_BitsBack_L1 lv1 sizes5 atv9 v10 k83 wv79 i80 = some r) ?_ ?_
      · have hM := hM.nilrow 5 1
        have hM := hM.pick [1, 0] rfl (by decide)
        exact fun a ha => ⟨fuel0, none, 0, ([]), 0, ha.less (less_cons rfl (less_cons rfl (less_cons rfl (less_cons rfl (less_cons rfl (less_cons rfl less_nil)))))), hM, hF⟩
      · rintro k83 a w81 ⟨A77, c78, wv79, i80, ha, hM, hF⟩
        refine KC.app ha ?_
        clear ha
        cases k83 with
        | zero => exact (none_some hF).elim
        | succ k83 =>
        have hF : F_law01_BitsBack_l1 (F_law01_BitsBack_L1 lv1 sizes5 atv9 v10 k83) lv1 sizes5 atv9 v10 wv79 i80 = some r := hF
        unfold F_law01_BitsBack_l1 at hF
        refine KC.seq ?_
        refine KC.seq ?_
        refine KC.region ?_
        refine RL.val (O.move rfl) rfl ?_
        refine RL.val (O.move rfl) rfl ?_
        refine RL.val (O.len sl47 rfl) rfl ?_
        refine RL.val (O.lss rfl rfl) rfl ?_
        refine RL.nil ?_
        refine KQ.then_n ?_
        refine KC.cond rfl (fun hc => ?_) (fun hc => ?_)
        · rw [if_pos hc] at hF
          refine KC.skip ?_
          refine KQ.then_n ?_
          refine KC.seq ?_
          refine KC.block ?_
          refine KC.seq ?_
          refine KC.region ?_
          refine RL.val (O.move rfl) rfl ?_
          refine RL.val (O.move rfl) rfl ?_
          obtain ⟨xv86, hx85, hF⟩ := obind hF
          have hA84 := Rd.atN (f := (eI .i64)) (s := 1) (fun _ => rfl) (by decide) (hM.inp hr8 Off.nil) hx85
          refine RL.val (O.idxA sl48 (hA84) rfl rfl) rfl ?_
          refine RL.val (O.load sc3 rfl (hA84).cells.at0) rfl ?_
          refine RL.val (O.assign rfl) rfl ?_
          refine RL.nil ?_
          refine KQ.then_n ?_
          refine KC.seq ?_
          refine KC.region ?_
          refine RL.val (O.move rfl) rfl ?_
          refine RL.val (O.move rfl) rfl ?_
          obtain ⟨xv89, hx88, hF⟩ := obind hF
          have hA87 := Rd.atN (f := (eI .u64)) (s := 1) (fun _ => rfl) (by decide) (hM.inp hr4 Off.nil) hx88
          refine RL.val (O.idxA sl47 (hA87) rfl rfl) rfl ?_
          refine RL.val (O.load sc23 rfl (hA87).cells.at0) rfl ?_
          refine RL.val (O.move rfl) rfl ?_
          obtain ⟨y90, hx91, hF⟩ := obind hF
          refine RL.call Try.func17 bd17 rfl rfl (c_bits_Writer_Put _ _ (T_bits_Writer.mk wv79) _ _ (hM.lent [1, 0] rfl (by decide)) xv89 xv86 _ hx91) fun v w92 hv => ?_
          obtain ⟨A94, c95, rfl, hN93⟩ := hv
          have hM := hM.callL [1, 0] [] rfl rfl (by decide) rfl hN93
          refine RL.val (O.assign rfl) rfl ?_
          refine RL.nil ?_
          refine KQ.then_n ?_
          refine KC.cut (fun a w107 => ∃ (t106 : Bool), Kn 189 [(0, .slice A2 (lv1).length c3), (1, .slice A6 (sizes5).length c7), (2, .int .i64 atv9), (3, .int .u64 v10), (9, .pointer (some ⟨g17, 0, none⟩)), (10, .int .i64 i80), (63, .bool t106)] a ∧ Mem w [] w107 [.row A94 c95 5 1 (y90.2.f_b).length ((y90.2.f_b).flatMap (eI .u8)), .box g17 33 [.slice A94 (y90.2.f_b).length c95]] ∧ F_law01_BitsBack_j2 i80 (F_law01_BitsBack_L1 lv1 sizes5 atv9 v10 k83) y90 t106 = some r) ?_ ?_
          · refine KC.region ?_
            refine RL.val (O.move rfl) rfl ?_
            refine RL.val (O.eql rfl rfl) rfl ?_
            refine RL.val (O.move rfl) rfl ?_
            refine RL.val (O.leq rfl rfl) rfl ?_
            refine RL.val (O.move rfl) rfl ?_
            refine RL.bcase (t := 54) rfl (fun hc => ?_) (fun hc => ?_)
            · rw [if_pos hc] at hF
              refine RL.gval rfl rfl (O.move rfl) rfl ?_
              refine RL.gval rfl rfl (O.move rfl) rfl ?_
              obtain ⟨xv99, hx98, hF⟩ := obind hF
              have hA97 := Rd.atN (f := (eI .u64)) (s := 1) (fun _ => rfl) (by decide) (hM.inp hr4 Off.nil) hx98
              refine RL.gval rfl rfl (O.idxA sl47 (hA97) rfl rfl) rfl ?_
              refine RL.gval rfl rfl (O.load sc23 rfl (hA97).cells.at0) rfl ?_
              obtain ⟨y100, hx101, hF⟩ := obind hF
              refine RL.gcall rfl rfl Try.func12 bd12 rfl rfl (c_bits_Least _ xv99 _ hx101) fun v w102 hv => ?_
              obtain ⟨rfl, hN103⟩ := hv
              have hM := hM.call0 hN103
              refine RL.gval rfl rfl (O.move rfl) rfl ?_
              refine RL.gval rfl rfl (O.leq rfl rfl) rfl ?_
              refine RL.val (O.pickt rfl rfl) rfl ?_
              refine RL.val (O.neqb Try.underlying4 rfl rfl) rfl ?_
              refine RL.nil ?_
              refine KQ.then_k ?_
              have hM := hM.pick [1, 0] rfl (by decide)
              exact fun a ha => ⟨(!((y90.1 == 0) == (decide (y100 ≤ xv86)))), ha.less (less_cons rfl (less_cons rfl (less_cons rfl (less_cons rfl (less_cons rfl (less_cons rfl (less_cons rfl less_nil))))))), hM, hF⟩
            · rw [if_neg (ne_true hc)] at hF
              refine RL.gskip rfl rfl rfl rfl ?_
              refine RL.gskip rfl rfl rfl rfl ?_
              refine RL.gskip rfl rfl rfl rfl ?_
              refine RL.gskip rfl rfl rfl rfl ?_
              refine RL.gskip rfl rfl rfl rfl ?_
              refine RL.gskip rfl rfl rfl rfl ?_
              refine RL.gskip rfl rfl rfl rfl ?_
              refine RL.val (O.pickf rfl rfl) rfl ?_
              refine RL.val (O.neqb Try.underlying4 rfl rfl) rfl ?_
              refine RL.nil ?_
              refine KQ.then_k ?_
              have hM := hM.pick [1, 0] rfl (by decide)
              exact fun a ha => ⟨(!((y90.1 == 0) == false)), ha.less (less_cons rfl (less_cons rfl (less_cons rfl (less_cons rfl (less_cons rfl (less_cons rfl (less_cons rfl less_nil))))))), hM, hF⟩
          · rintro a w107 ⟨t106, ha, hM, hF⟩
            refine KC.app ha ?_
            clear ha
            unfold F_law01_BitsBack_j2 at hF
            refine KC.cond rfl (fun hc => ?_) (fun hc => ?_)
            · rw [if_pos hc] at hF
              refine KC.seq ?_
              refine KC.region ?_
              refine RL.val (O.assign rfl) rfl ?_
              refine RL.nil ?_
              refine KQ.then_n ?_
              refine KC.ret ?_
              refine KQ.blk_r ?_
              refine KQ.then_r ?_
              refine KQ.then_r ?_
              refine KQ.blk_r ?_
              refine KQ.then_r ?_
              obtain rfl := Option.some.inj hF
              have hM := hM.pick [] rfl (by decide)
              refine KQ.rets Try.results5 (RVs.cons (RV.tm rfl) RVs.nil) ?_
              exact ⟨_, rfl, rfl, hM⟩
            · rw [if_neg (ne_true hc)] at hF
              refine KC.skip ?_
              refine KQ.blk_n ?_
              refine KQ.then_n ?_
              refine KC.region ?_
              refine RL.val (O.move rfl) rfl ?_
              refine RL.val (O.add rfl rfl) rfl ?_
              refine RL.val (O.assign rfl) rfl ?_
              refine RL.nil ?_
              refine KQ.then_k ?_
              exact fun a ha => ⟨k83, Nat.lt_succ_self k83, A94, c95, y90.2.f_b, (IntKind.i64.wrap (i80 + 1)), ha.less (less_cons rfl (less_cons rfl (less_cons rfl (less_cons rfl (less_cons rfl (less_cons rfl less_nil)))))), hM, hF⟩
        · rw [if_neg (ne_true hc)] at hF
          refine KC.exit ?_
          refine KQ.then_x ?_
          refine KQ.then_x ?_
          refine KQ.blk_x ?_
          refine KQ.then_n ?_
          refine KC.seq ?_
          refine KC.region ?_
          obtain ⟨y108, hx109, hF⟩ := obind hF
          refine RL.call Try.func22 bd22 rfl rfl (c_bits_Writer_Bytes _ _ (T_bits_Writer.mk wv79) _ _ (hM.lent [1, 0] rfl (by decide)) _ hx109) fun v w110 hv => ?_
          obtain ⟨A112, c113, A115, c116, rfl, hN111⟩ := hv
          have hM := hM.callL [1, 0] [] rfl rfl (by decide) rfl hN111
          obtain ⟨y118, hx119, hF⟩ := obind hF
          refine RL.call Try.func25 bd25 rfl rfl (c_bits_Read _ _ _ y108.1 (hM.rd (i := 2) rfl) _ hx119) fun v w120 hv => ?_
          obtain ⟨g122, A124, c125, rfl, hN121⟩ := hv
          have hM := hM.call hN121
          refine RL.val (O.assign rfl) rfl ?_
          refine RL.nil ?_
          refine KQ.then_n ?_
          refine KC.seq ?_
          refine KC.seq ?_
          refine KC.region ?_
          refine RL.val (O.assign rfl) rfl ?_
          refine RL.nil ?_
          refine KQ.then_n ?_
          refine KC.block ?_
          refine KC.loop (fun k247 a w245 => ∃ (A240 : Option Addr) (c241 : Nat) (rv242 : List Int) (rv243 : Int) (i244 : Int), Kn 189 [(0, .slice A2 (lv1).length c3), (1, .slice A6 (sizes5).length c7), (2, .int .i64 atv9), (3, .int .u64 v10), (9, .pointer (some ⟨g17, 0, none⟩)), (13, .pointer (some ⟨g122, 0, none⟩)), (14, .int .i64 i244)] a ∧ Mem w [] w245 [.row A112 c113 5 1 (y108.2.f_b).length ((y108.2.f_b).flatMap (eI .u8)), .box g17 33 [.slice A112 (y108.2.f_b).length c113], .row A240 c241 5 1 (rv242).length ((rv242).flatMap (eI .u8)), .box g122 64 [.slice A240 (rv242).length c241, .int .i64 rv243]] ∧ F_law01_BitsBack_L2 lv1 sizes5 atv9 v10 y108 k247 rv242 rv243 i244 = some r) ?_ ?_
          · have hM := hM.pick [1, 0, 4, 3] rfl (by decide)
            exact fun a ha => ⟨fuel0, A124, c125, y118.f_b, y118.f_at, 0, ha.less (less_cons rfl (less_cons rfl (less_cons rfl (less_cons rfl (less_cons rfl (less_cons rfl (less_cons rfl less_nil))))))), hM, hF⟩
          · rintro k247 a w245 ⟨A240, c241, rv242, rv243, i244, ha, hM, hF⟩
            refine KC.app ha ?_
            clear ha
            cases k247 with
            | zero => exact (none_some hF).elim
            | succ k247 =>
            have hF : F_law01_BitsBack_l2 (F_law01_BitsBack_L2 lv1 sizes5 atv9 v10 y108 k247) lv1 sizes5 atv9 v10 y108 rv242 rv243 i244 = some r := hF
            unfold F_law01_BitsBack_l2 at hF
            refine KC.seq ?_
            refine KC.seq ?_
            refine KC.region ?_
            refine RL.val (O.move rfl) rfl ?_
            refine RL.val (O.move rfl) rfl ?_
            refine RL.val (O.len sl47 rfl) rfl ?_
            refine RL.val (O.lss rfl rfl) rfl ?_
            refine RL.nil ?_
            refine KQ.then_n ?_
            refine KC.cond rfl (fun hc => ?_) (fun hc => ?_)
            · rw [if_pos hc] at hF
              refine KC.skip ?_
              refine KQ.then_n ?_
              refine KC.cut (fun a w297 => ∃ (A293 : Option Addr) (c294 : Nat) (rv295 : List Int) (rv296 : Int), Kn 189 [(0, .slice A2 (lv1).length c3), (1, .slice A6 (sizes5).length c7), (2, .int .i64 atv9), (3, .int .u64 v10), (9, .pointer (some ⟨g17, 0, none⟩)), (13, .pointer (some ⟨g122, 0, none⟩)), (14, .int .i64 i244)] a ∧ Mem w [] w297 [.row A112 c113 5 1 (y108.2.f_b).length ((y108.2.f_b).flatMap (eI .u8)), .box g17 33 [.slice A112 (y108.2.f_b).length c113], .row A293 c294 5 1 (rv295).length ((rv295).flatMap (eI .u8)), .box g122 64 [.slice A293 (rv295).length c294, .int .i64 rv296]] ∧ F_law01_BitsBack_j3 i244 (F_law01_BitsBack_L2 lv1 sizes5 atv9 v10 y108 k247) rv295 rv296 = some r) ?_ ?_
              · refine KC.block ?_
                refine KC.seq ?_
                refine KC.cut (fun a w269 => ∃ (t268 : Bool), Kn 189 [(0, .slice A2 (lv1).length c3), (1, .slice A6 (sizes5).length c7), (2, .int .i64 atv9), (3, .int .u64 v10), (9, .pointer (some ⟨g17, 0, none⟩)), (13, .pointer (some ⟨g122, 0, none⟩)), (14, .int .i64 i244), (95, .bool t268)] a ∧ Mem w [] w269 [.row A112 c113 5 1 (y108.2.f_b).length ((y108.2.f_b).flatMap (eI .u8)), .box g17 33 [.slice A112 (y108.2.f_b).length c113], .row A240 c241 5 1 (rv242).length ((rv242).flatMap (eI .u8)), .box g122 64 [.slice A240 (rv242).length c241, .int .i64 rv243]] ∧ F_law01_BitsBack_j4 lv1 sizes5 rv242 rv243 i244 (F_law01_BitsBack_L2 lv1 sizes5 atv9 v10 y108 k247) t268 = some r) ?_ ?_
                · have hM := hM.drewN 1
                  refine KC.draw [] [21] (.ofList [0, 1, 2, 3, 4, 5, 6, 7, 8, 9, 10, 11, 12, 13, 14, 15, 16, 17, 18, 19, 20, 21, 22, 23]) moP (by kernel_rfl) ?_
                  refine RD.q rfl rfl rfl (fun w' hf => O.move rfl) ?_
                  refine RD.q rfl rfl rfl (fun w' hf => O.move rfl) ?_
                  obtain ⟨xv250, hx249, hF⟩ := obind hF
                  have hA248 := Rd.atN (f := (eI .i64)) (s := 1) (fun _ => rfl) (by decide) (hM.inp hr8 Off.nil) hx249
                  refine RD.q rfl rfl rfl (fun w' hf => O.idxA sl48 (hA248.fut hf) rfl rfl) ?_
                  refine RD.q rfl rfl rfl (fun w' hf => O.load sc3 rfl (hA248.fut hf).cells.at0) ?_
                  refine RD.q rfl rfl rfl (fun w' hf => O.lss rfl rfl) ?_
                  refine RD.q rfl rfl rfl (fun w' hf => O.move rfl) ?_
                  refine RD.bcase (t := 77) rfl (fun hc => ?_) (fun hc => ?_)
                  · rw [if_pos hc] at hF
                    refine RD.gskip rfl rfl rfl rfl rfl ?_
                    refine RD.gskip rfl rfl rfl rfl rfl ?_
                    refine RD.gskip rfl rfl rfl rfl rfl ?_
                    refine RD.gskip rfl rfl rfl rfl rfl ?_
                    refine RD.gskip rfl rfl rfl rfl rfl ?_
                    refine RD.q rfl rfl rfl (fun w' hf => O.pickt rfl rfl) ?_
                    refine RD.q rfl rfl rfl (fun w' hf => O.move rfl) ?_
                    refine RD.gskip rfl rfl rfl rfl rfl ?_
                    refine RD.gskip rfl rfl rfl rfl rfl ?_
                    refine RD.gskip rfl rfl rfl rfl rfl ?_
                    refine RD.gskip rfl rfl rfl rfl rfl ?_
                    refine RD.gskip rfl rfl rfl rfl rfl ?_
                    refine RD.gskip rfl rfl rfl rfl rfl ?_
                    refine RD.gskip rfl rfl rfl rfl rfl ?_
                    refine RD.gskip rfl rfl rfl rfl rfl ?_
                    refine RD.gskip rfl rfl rfl rfl rfl ?_
                    refine RD.gskip rfl rfl rfl rfl rfl ?_
                    refine RD.q rfl rfl rfl (fun w' hf => O.pickt rfl rfl) ?_
                    refine RD.nil ?_
                    refine KQ.then_k ?_
                    exact fun a ha => ⟨true, ha.less (less_cons rfl (less_cons rfl (less_cons rfl (less_cons rfl (less_cons rfl (less_cons rfl (less_cons rfl (less_cons rfl less_nil)))))))), hM, hF⟩
                  · rw [if_neg (ne_true hc)] at hF
                    refine RD.gq rfl rfl rfl rfl rfl (fun w' hf => O.move rfl) ?_
                    refine RD.gq rfl rfl rfl rfl rfl (fun w' hf => O.move rfl) ?_
                    obtain ⟨xv253, hx252, hF⟩ := obind hF
                    have hA251 := Rd.atN (f := (eI .i64)) (s := 1) (fun _ => rfl) (by decide) (hM.inp hr8 Off.nil) hx252
                    refine RD.gq rfl rfl rfl rfl rfl (fun w' hf => O.idxA sl48 (hA251.fut hf) rfl rfl) ?_
                    refine RD.gq rfl rfl rfl rfl rfl (fun w' hf => O.load sc3 rfl (hA251.fut hf).cells.at0) ?_
                    refine RD.gq rfl rfl rfl rfl rfl (fun w' hf => O.gtr rfl rfl) ?_
                    refine RD.q rfl rfl rfl (fun w' hf => O.pickf rfl rfl) ?_
                    refine RD.q rfl rfl rfl (fun w' hf => O.move rfl) ?_
                    refine RD.bcase (t := 84) rfl (fun hc => ?_) (fun hc => ?_)
                    · rw [if_pos hc] at hF
                      refine RD.gskip rfl rfl rfl rfl rfl ?_
                      refine RD.gskip rfl rfl rfl rfl rfl ?_
                      refine RD.gskip rfl rfl rfl rfl rfl ?_
                      refine RD.gskip rfl rfl rfl rfl rfl ?_
                      refine RD.gskip rfl rfl rfl rfl rfl ?_
                      refine RD.gskip rfl rfl rfl rfl rfl ?_
                      refine RD.gskip rfl rfl rfl rfl rfl ?_
                      refine RD.gskip rfl rfl rfl rfl rfl ?_
                      refine RD.gskip rfl rfl rfl rfl rfl ?_
                      refine RD.gskip rfl rfl rfl rfl rfl ?_
                      refine RD.q rfl rfl rfl (fun w' hf => O.pickt rfl rfl) ?_
                      refine RD.nil ?_
                      refine KQ.then_k ?_
                      exact fun a ha => ⟨true, ha.less (less_cons rfl (less_cons rfl (less_cons rfl (less_cons rfl (less_cons rfl (less_cons rfl (less_cons rfl (less_cons rfl less_nil)))))))), hM, hF⟩
                    · rw [if_neg (ne_true hc)] at hF
                      refine RD.gq rfl rfl rfl rfl rfl (fun w' hf => O.move rfl) ?_
                      refine RD.gq rfl rfl rfl rfl rfl (fun w' hf => O.move rfl) ?_
                      obtain ⟨xv256, hx255, hF⟩ := obind hF
                      have hA254 := Rd.atN (f := (eI .u64)) (s := 1) (fun _ => rfl) (by decide) (hM.inp hr4 Off.nil) hx255
                      refine RD.gq rfl rfl rfl rfl rfl (fun w' hf => O.idxA sl47 (hA254.fut hf) rfl rfl) ?_
                      refine RD.gq rfl rfl rfl rfl rfl (fun w' hf => O.load sc23 rfl (hA254.fut hf).cells.at0) ?_
                      refine RD.gq rfl rfl rfl rfl rfl (fun w' hf => O.move rfl) ?_
                      refine RD.gq rfl rfl rfl rfl rfl (fun w' hf => O.move rfl) ?_
                      obtain ⟨xv259, hx258, hF⟩ := obind hF
                      have hA257 := Rd.atN (f := (eI .i64)) (s := 1) (fun _ => rfl) (by decide) (hM.inp hr8 Off.nil) hx258
                      refine RD.gq rfl rfl rfl rfl rfl (fun w' hf => O.idxA sl48 (hA257.fut hf) rfl rfl) ?_
                      refine RD.gq rfl rfl rfl rfl rfl (fun w' hf => O.load sc3 rfl (hA257.fut hf).cells.at0) ?_
                      obtain ⟨y260, hx261, hF⟩ := obind hF
                      refine RD.mcall rfl rfl ⟨rfl, rfl⟩ Try.func15 bd15 rfl rfl (c_ref01_Fits _ xv256 xv259 _ hx261) fun v w262 hv => ?_
                      obtain ⟨rfl, hN263⟩ := hv
                      refine ⟨fun _ => hN263.fut, ?_⟩
                      have hM := hM.call0 hN263
                      refine RD.gq rfl rfl rfl rfl rfl (fun w' hf => O.not rfl) ?_
                      refine RD.q rfl rfl rfl (fun w' hf => O.pickf rfl rfl) ?_
                      refine RD.nil ?_
                      refine KQ.then_k ?_
                      exact fun a ha => ⟨(!y260), ha.less (less_cons rfl (less_cons rfl (less_cons rfl (less_cons rfl (less_cons rfl (less_cons rfl (less_cons rfl (less_cons rfl less_nil)))))))), hM, hF⟩
                · rintro a w269 ⟨t268, ha, hM, hF⟩
                  refine KC.app ha ?_
                  clear ha
                  unfold F_law01_BitsBack_j4 at hF
                  refine KC.cond rfl (fun hc => ?_) (fun hc => ?_)
                  · rw [if_pos hc] at hF
                    refine KC.exit ?_
                    refine KQ.then_x ?_
                    refine KQ.blk_x ?_
                    refine KQ.then_k ?_
                    exact fun a ha => ⟨A240, c241, rv242, rv243, ha.less (less_cons rfl (less_cons rfl (less_cons rfl (less_cons rfl (less_cons rfl (less_cons rfl (less_cons rfl less_nil))))))), hM, hF⟩
                  · rw [if_neg (ne_true hc)] at hF
                    refine KC.skip ?_
                    refine KQ.then_n ?_
                    refine KC.seq ?_
                    refine KC.region ?_
                    refine RL.val (O.move rfl) rfl ?_
                    refine RL.val (O.move rfl) rfl ?_
                    refine RL.val (O.move rfl) rfl ?_
                    obtain ⟨xv272, hx271, hF⟩ := obind hF
                    have hA270 := Rd.atN (f := (eI .i64)) (s := 1) (fun _ => rfl) (by decide) (hM.inp hr8 Off.nil) hx271
                    refine RL.val (O.idxA sl48 (hA270) rfl rfl) rfl ?_
                    refine RL.val (O.load sc3 rfl (hA270).cells.at0) rfl ?_
                    obtain ⟨y273, hx274, hF⟩ := obind hF
                    refine RL.call Try.func26 bd26 rfl rfl (c_bits_Reader_Get _ _ (T_bits_Reader.mk rv242 rv243) _ _ (hM.lent [3, 2] rfl (by decide)) xv272 _ hx274) fun v w275 hv => ?_
                    obtain ⟨A277, c278, rfl, hN276⟩ := hv
                    have hM := hM.callL [3, 2] [0, 1] rfl rfl (by decide) rfl hN276
                    refine RL.val (O.move rfl) rfl ?_
                    refine RL.val (O.ext rfl rfl) rfl ?_
                    refine RL.val (O.ext rfl rfl) rfl ?_
                    refine RL.val (O.assign rfl) rfl ?_
                    refine RL.val (O.assign rfl) rfl ?_
                    refine RL.nil ?_
                    refine KQ.then_n ?_
                    refine KC.cut (fun a w288 => ∃ (t287 : Bool), Kn 189 [(0, .slice A2 (lv1).length c3), (1, .slice A6 (sizes5).length c7), (2, .int .i64 atv9), (3, .int .u64 v10), (9, .pointer (some ⟨g17, 0, none⟩)), (13, .pointer (some ⟨g122, 0, none⟩)), (14, .int .i64 i244), (114, .bool t287)] a ∧ Mem w [] w288 [.row A112 c113 5 1 (y108.2.f_b).length ((y108.2.f_b).flatMap (eI .u8)), .box g17 33 [.slice A112 (y108.2.f_b).length c113], .row A277 c278 5 1 (y273.2.2.f_b).length ((y273.2.2.f_b).flatMap (eI .u8)), .box g122 64 [.slice A277 (y273.2.2.f_b).length c278, .int .i64 y273.2.2.f_at]] ∧ F_law01_BitsBack_j5 i244 (F_law01_BitsBack_L2 lv1 sizes5 atv9 v10 y108 k247) y273 t287 = some r) ?_ ?_
                    · refine KC.region ?_
                      refine RL.val (O.move rfl) rfl ?_
                      refine RL.val (O.neq rfl rfl) rfl ?_
                      refine RL.val (O.move rfl) rfl ?_
                      refine RL.bcase (t := 107) rfl (fun hc => ?_) (fun hc => ?_)
                      · rw [if_pos hc] at hF
                        refine RL.gskip rfl rfl rfl rfl ?_
                        refine RL.gskip rfl rfl rfl rfl ?_
                        refine RL.gskip rfl rfl rfl rfl ?_
                        refine RL.gskip rfl rfl rfl rfl ?_
                        refine RL.gskip rfl rfl rfl rfl ?_
                        refine RL.gskip rfl rfl rfl rfl ?_
                        refine RL.val (O.pickt rfl rfl) rfl ?_
                        refine RL.nil ?_
                        refine KQ.then_k ?_
                        have hM := hM.pick [0, 1, 3, 2] rfl (by decide)
                        exact fun a ha => ⟨true, ha.less (less_cons rfl (less_cons rfl (less_cons rfl (less_cons rfl (less_cons rfl (less_cons rfl (less_cons rfl (less_cons rfl less_nil)))))))), hM, hF⟩
                      · rw [if_neg (ne_true hc)] at hF
                        refine RL.gval rfl rfl (O.move rfl) rfl ?_
                        refine RL.gval rfl rfl (O.move rfl) rfl ?_
                        refine RL.gval rfl rfl (O.move rfl) rfl ?_
                        obtain ⟨xv282, hx281, hF⟩ := obind hF
                        have hA280 := Rd.atN (f := (eI .u64)) (s := 1) (fun _ => rfl) (by decide) (hM.inp hr4 Off.nil) hx281
                        refine RL.gval rfl rfl (O.idxA sl47 (hA280) rfl rfl) rfl ?_
                        refine RL.gval rfl rfl (O.load sc23 rfl (hA280).cells.at0) rfl ?_
                        refine RL.gval rfl rfl (O.neq rfl rfl) rfl ?_
                        refine RL.val (O.pickf rfl rfl) rfl ?_
                        refine RL.nil ?_
                        refine KQ.then_k ?_
                        have hM := hM.pick [0, 1, 3, 2] rfl (by decide)
                        exact fun a ha => ⟨(y273.1 != xv282), ha.less (less_cons rfl (less_cons rfl (less_cons rfl (less_cons rfl (less_cons rfl (less_cons rfl (less_cons rfl (less_cons rfl less_nil)))))))), hM, hF⟩
                    · rintro a w288 ⟨t287, ha, hM, hF⟩
                      refine KC.app ha ?_
                      clear ha
                      unfold F_law01_BitsBack_j5 at hF
                      refine KC.cond rfl (fun hc => ?_) (fun hc => ?_)
                      · rw [if_pos hc] at hF
                        refine KC.seq ?_
                        refine KC.region ?_
                        refine RL.val (O.assign rfl) rfl ?_
                        refine RL.nil ?_
                        refine KQ.then_n ?_
                        refine KC.ret ?_
                        refine KQ.blk_r ?_
                        refine KQ.then_r ?_
                        refine KQ.then_r ?_
                        refine KQ.blk_r ?_
                        refine KQ.then_r ?_
                        obtain rfl := Option.some.inj hF
                        have hM := hM.pick [] rfl (by decide)
                        refine KQ.rets Try.results5 (RVs.cons (RV.tm rfl) RVs.nil) ?_
                        exact ⟨_, rfl, rfl, hM⟩
                      · rw [if_neg (ne_true hc)] at hF
                        refine KC.skip ?_
                        refine KQ.blk_n ?_
                        refine KQ.then_k ?_
                        exact fun a ha => ⟨A277, c278, y273.2.2.f_b, y273.2.2.f_at, ha.less (less_cons rfl (less_cons rfl (less_cons rfl (less_cons rfl (less_cons rfl (less_cons rfl (less_cons rfl less_nil))))))), hM, hF⟩
              · rintro a w297 ⟨A293, c294, rv295, rv296, ha, hM, hF⟩
                refine KC.app ha ?_
                clear ha
                unfold F_law01_BitsBack_j3 at hF
                refine KC.region ?_
                refine RL.val (O.move rfl) rfl ?_
                refine RL.val (O.add rfl rfl) rfl ?_
                refine RL.val (O.assign rfl) rfl ?_
                refine RL.nil ?_
                refine KQ.then_k ?_
                exact fun a ha => ⟨k247, Nat.lt_succ_self k247, A293, c294, rv295, rv296, (IntKind.i64.wrap (i244 + 1)), ha.less (less_cons rfl (less_cons rfl (less_cons rfl (less_cons rfl (less_cons rfl (less_cons rfl (less_cons rfl less_nil))))))), hM, hF⟩
            · rw [if_neg (ne_true hc)] at hF
              refine KC.exit ?_
              refine KQ.then_x ?_
              refine KQ.then_x ?_
              refine KQ.blk_x ?_
              refine KQ.then_n ?_
              refine KC.seq ?_
              refine KC.region ?_
              obtain ⟨y298, hx299, hF⟩ := obind hF
              refine RL.call Try.func22 bd22 rfl rfl (c_bits_Writer_Bytes _ _ y108.2 _ _ (hM.lent [1, 0] rfl (by decide)) _ hx299) fun v w300 hv => ?_
              obtain ⟨A302, c303, A305, c306, rfl, hN301⟩ := hv
              have hM := hM.callL [1, 0] [2, 3] rfl rfl (by decide) rfl hN301
              refine RL.val (O.assign rfl) rfl ?_
              refine RL.nil ?_
              refine KQ.then_n ?_
              refine KC.seq ?_
              refine KC.region ?_
              refine RL.val (O.move rfl) rfl ?_
              obtain ⟨y308, hx309, hF⟩ := obind hF
              refine RL.call Try.func12 bd12 rfl rfl (c_bits_Least _ v10 _ hx309) fun v w310 hv => ?_
              obtain ⟨rfl, hN311⟩ := hv
              have hM := hM.call0 hN311
              refine RL.val (O.assign rfl) rfl ?_
              refine RL.nil ?_
              refine KQ.then_n ?_
              refine KC.seq ?_
              refine KC.cut (fun a w339 => ∃ (A328 : Option Addr) (c329 : Nat) (A333 : Option Addr) (c334 : Nat) (wv330 : List Int) (rv335 : List Int) (rv336 : Int) (t338 : Bool), Kn 189 [(2, .int .i64 atv9), (3, .int .u64 v10), (9, .pointer (some ⟨g17, 0, none⟩)), (13, .pointer (some ⟨g122, 0, none⟩)), (17, .slice A305 (y298.1).length c306), (18, .int .i64 y308), (127, .bool t338)] a ∧ Mem w [] w339 [.row A328 c329 5 1 (wv330).length ((wv330).flatMap (eI .u8)), .box g17 33 [.slice A328 (wv330).length c329], .row A333 c334 5 1 (rv335).length ((rv335).flatMap (eI .u8)), .box g122 64 [.slice A333 (rv335).length c334, .int .i64 rv336], .row A305 c306 5 1 (y298.1).length ((y298.1).flatMap (eI .u8))] ∧ F_law01_BitsBack_j6 atv9 v10 y298 y308 wv330 rv335 rv336 t338 = some r) ?_ ?_
              · refine KC.region ?_
                refine RL.val (O.move rfl) rfl ?_
                obtain ⟨y312, hx313, hF⟩ := obind hF
                refine RL.call Try.func27 bd27 rfl rfl (c_bits_Reader_Left _ _ (T_bits_Reader.mk rv242 rv243) _ _ (hM.lent [1, 0] rfl (by decide)) _ hx313) fun v w314 hv => ?_
                obtain ⟨A316, c317, rfl, hN315⟩ := hv
                have hM := hM.callL [1, 0] [2, 3, 4] rfl rfl (by decide) rfl hN315
                refine RL.val (O.neq rfl rfl) rfl ?_
                refine RL.val (O.move rfl) rfl ?_
                refine RL.bcase (t := 121) rfl (fun hc => ?_) (fun hc => ?_)
                · rw [if_pos hc] at hF
                  refine RL.gskip rfl rfl rfl rfl ?_
                  refine RL.gskip rfl rfl rfl rfl ?_
                  refine RL.gskip rfl rfl rfl rfl ?_
                  refine RL.gskip rfl rfl rfl rfl ?_
                  refine RL.gskip rfl rfl rfl rfl ?_
                  refine RL.val (O.pickt rfl rfl) rfl ?_
                  refine RL.nil ?_
                  refine KQ.then_k ?_
                  have hM := hM.pick [1, 0, 4, 3, 2] rfl (by decide)
                  exact fun a ha => ⟨A302, c303, A316, c317, y298.2.f_b, y312.2.f_b, y312.2.f_at, true, ha.less (less_cons rfl (less_cons rfl (less_cons rfl (less_cons rfl (less_cons rfl (less_cons rfl (less_cons rfl less_nil))))))), hM, hF⟩
                · rw [if_neg (ne_true hc)] at hF
                  refine RL.gval rfl rfl (O.move rfl) rfl ?_
                  refine RL.gval rfl rfl (O.move rfl) rfl ?_
                  refine RL.gval rfl rfl (O.move rfl) rfl ?_
                  obtain ⟨y319, hx320, hF⟩ := obind hF
                  refine RL.gcall rfl rfl Try.func21 bd21 rfl rfl (c_bits_Writer_Set _ _ y298.2 _ _ (hM.lent [0, 1] rfl (by decide)) atv9 v10 y308 _ hx320) fun v w321 hv => ?_
                  obtain ⟨A323, c324, rfl, hN322⟩ := hv
                  have hM := hM.callL [0, 1] [2, 3, 4] rfl rfl (by decide) rfl hN322
                  refine RL.gval rfl rfl (O.neq rfl rfl) rfl ?_
                  refine RL.val (O.pickf rfl rfl) rfl ?_
                  refine RL.nil ?_
                  refine KQ.then_k ?_
                  have hM := hM.pick [4, 3, 2, 1, 0] rfl (by decide)
                  exact fun a ha => ⟨A323, c324, A316, c317, y319.2.f_b, y312.2.f_b, y312.2.f_at, (y319.1 != 0), ha.less (less_cons rfl (less_cons rfl (less_cons rfl (less_cons rfl (less_cons rfl (less_cons rfl (less_cons rfl less_nil))))))), hM, hF⟩
              · rintro a w339 ⟨A328, c329, A333, c334, wv330, rv335, rv336, t338, ha, hM, hF⟩
                refine KC.app ha ?_
                clear ha
                unfold F_law01_BitsBack_j6 at hF
                refine KC.cond rfl (fun hc => ?_) (fun hc => ?_)
                · rw [if_pos hc] at hF
                  refine KC.cut (fun a w366 => ∃ (t365 : Bool), Kn 189 [(8, .bool t365)] a ∧ Mem w [] w366 [] ∧ F_law01_BitsBack_j7 t365 = some r) ?_ ?_
                  · refine KC.region ?_
                    refine RL.val (O.move rfl) rfl ?_
                    obtain ⟨y340, hx341, hF⟩ := obind hF
                    refine RL.call Try.func27 bd27 rfl rfl (c_bits_Reader_Left _ _ (T_bits_Reader.mk rv335 rv336) _ _ (hM.lent [3, 2] rfl (by decide)) _ hx341) fun v w342 hv => ?_
                    obtain ⟨A344, c345, rfl, hN343⟩ := hv
                    have hM := hM.callL [3, 2] [0, 1, 4] rfl rfl (by decide) rfl hN343
                    refine RL.val (O.eql rfl rfl) rfl ?_
                    refine RL.val (O.move rfl) rfl ?_
                    refine RL.bcase (t := 131) rfl (fun hc => ?_) (fun hc => ?_)
                    · rw [if_pos hc] at hF
                      obtain ⟨y347, hx348, hF⟩ := obind hF
                      refine RL.gcall rfl rfl Try.func22 bd22 rfl rfl (c_bits_Writer_Bytes _ _ (T_bits_Writer.mk wv330) _ _ (hM.lent [1, 0] rfl (by decide)) _ hx348) fun v w349 hv => ?_
                      obtain ⟨A351, c352, A354, c355, rfl, hN350⟩ := hv
                      have hM := hM.callL [1, 0] [2, 3, 4] rfl rfl (by decide) rfl hN350
                      refine RL.gval rfl rfl (O.move rfl) rfl ?_
                      obtain ⟨y357, hx358, hF⟩ := obind hF
                      refine RL.gcall rfl rfl Try.func23 bd23 rfl rfl (c_ref01_Same _ _ _ y347.1 (hM.rd (i := 5) rfl) _ _ y298.1 (hM.rd (i := 0) rfl) _ hx358) fun v w359 hv => ?_
                      obtain ⟨rfl, hN360⟩ := hv
                      have hM := hM.call0 hN360
                      refine RL.val (O.pickt rfl rfl) rfl ?_
                      refine RL.val (O.move rfl) rfl ?_
                      refine RL.bcase (t := 136) rfl (fun hc => ?_) (fun hc => ?_)
                      · rw [if_pos hc] at hF
                        obtain ⟨y361, hx362, hF⟩ := obind hF
                        refine RL.gcall rfl rfl Try.func9 bd9 rfl rfl (c_law01_works _ _ hx362) fun v w363 hv => ?_
                        obtain ⟨rfl, hN364⟩ := hv
                        have hM := hM.call0 hN364
                        refine RL.val (O.pickt rfl rfl) rfl ?_
                        refine RL.val (O.assign rfl) rfl ?_
                        refine RL.nil ?_
                        refine KQ.then_k ?_
                        have hM := hM.pick [] rfl (by decide)
                        exact fun a ha => ⟨y361, ha.less (less_cons rfl less_nil), hM, hF⟩
                      · rw [if_neg (ne_true hc)] at hF
                        refine RL.gskip rfl rfl rfl rfl ?_
                        refine RL.val (O.pickf rfl rfl) rfl ?_
                        refine RL.val (O.assign rfl) rfl ?_
                        refine RL.nil ?_
                        refine KQ.then_k ?_
                        have hM := hM.pick [] rfl (by decide)
                        exact fun a ha => ⟨false, ha.less (less_cons rfl less_nil), hM, hF⟩
                    · rw [if_neg (ne_true hc)] at hF
                      refine RL.gskip rfl rfl rfl rfl ?_
                      refine RL.gskip rfl rfl rfl rfl ?_
                      refine RL.gskip rfl rfl rfl rfl ?_
                      refine RL.val (O.pickf rfl rfl) rfl ?_
                      refine RL.val (O.move rfl) rfl ?_
                      refine RL.gskip rfl rfl rfl rfl ?_
                      refine RL.val (O.pickf rfl rfl) rfl ?_
                      refine RL.val (O.assign rfl) rfl ?_
                      refine RL.nil ?_
                      refine KQ.then_k ?_
                      have hM := hM.pick [] rfl (by decide)
                      exact fun a ha => ⟨false, ha.less (less_cons rfl less_nil), hM, hF⟩
                  · rintro a w366 ⟨t365, ha, hM, hF⟩
                    refine KC.app ha ?_
                    clear ha
                    unfold F_law01_BitsBack_j7 at hF
                    refine KC.ret ?_
                    refine KQ.then_r ?_
                    obtain rfl := Option.some.inj hF
                    refine KQ.rets Try.results5 (RVs.cons (RV.tm rfl) RVs.nil) ?_
                    exact ⟨_, rfl, rfl, hM⟩
                · rw [if_neg (ne_true hc)] at hF
                  refine KC.skip ?_
                  refine KQ.then_n ?_
                  refine KC.seq ?_
                  refine KC.region ?_
                  obtain ⟨y367, hx368, hF⟩ := obind hF
                  refine RL.call Try.func22 bd22 rfl rfl (c_bits_Writer_Bytes _ _ (T_bits_Writer.mk wv330) _ _ (hM.lent [1, 0] rfl (by decide)) _ hx368) fun v w369 hv => ?_
                  obtain ⟨A371, c372, A374, c375, rfl, hN370⟩ := hv
                  have hM := hM.callL [1, 0] [2, 3, 4] rfl rfl (by decide) rfl hN370
                  refine RL.val (O.assign rfl) rfl ?_
                  refine RL.nil ?_
                  refine KQ.then_n ?_
                  refine KC.seq ?_
                  refine KC.region ?_
                  refine RL.val (O.move rfl) rfl ?_
                  refine RL.val (O.move rfl) rfl ?_
                  refine RL.val (O.move rfl) rfl ?_
                  obtain ⟨y377, hx378, hF⟩ := obind hF
                  refine RL.call Try.func10 bd10 rfl rfl (c_bits_Get _ _ _ y367.1 (hM.rd (i := 5) rfl) atv9 y308 _ hx378) fun v w379 hv => ?_
                  obtain ⟨rfl, hN380⟩ := hv
                  have hM := hM.call0 hN380
                  refine RL.val (O.move rfl) rfl ?_
                  refine RL.val (O.ext rfl rfl) rfl ?_
                  refine RL.val (O.ext rfl rfl) rfl ?_
                  refine RL.val (O.assign rfl) rfl ?_
                  refine RL.val (O.assign rfl) rfl ?_
                  refine RL.nil ?_
                  refine KQ.then_n ?_
                  refine KC.seq ?_
                  refine KC.cut (fun a w384 => ∃ (t383 : Bool), Kn 189 [(2, .int .i64 atv9), (17, .slice A305 (y298.1).length c306), (18, .int .i64 y308), (19, .slice A374 (y367.1).length c375), (160, .bool t383)] a ∧ Mem w [] w384 [.row A305 c306 5 1 (y298.1).length ((y298.1).flatMap (eI .u8)), .row A374 c375 5 1 (y367.1).length ((y367.1).flatMap (eI .u8))] ∧ F_law01_BitsBack_j8 atv9 y298 y308 y367 t383 = some r) ?_ ?_
                  · refine KC.region ?_
                    refine RL.val (O.move rfl) rfl ?_
                    refine RL.val (O.len sl22 rfl) rfl ?_
                    refine RL.val (O.move rfl) rfl ?_
                    refine RL.val (O.len sl22 rfl) rfl ?_
                    refine RL.val (O.neq rfl rfl) rfl ?_
                    refine RL.val (O.move rfl) rfl ?_
                    refine RL.bcase (t := 152) rfl (fun hc => ?_) (fun hc => ?_)
                    · rw [if_pos hc] at hF
                      refine RL.gskip rfl rfl rfl rfl ?_
                      refine RL.gskip rfl rfl rfl rfl ?_
                      refine RL.val (O.pickt rfl rfl) rfl ?_
                      refine RL.val (O.move rfl) rfl ?_
                      refine RL.gskip rfl rfl rfl rfl ?_
                      refine RL.gskip rfl rfl rfl rfl ?_
                      refine RL.gskip rfl rfl rfl rfl ?_
                      refine RL.val (O.pickt rfl rfl) rfl ?_
                      refine RL.nil ?_
                      refine KQ.then_k ?_
                      have hM := hM.pick [2, 5] rfl (by decide)
                      exact fun a ha => ⟨true, ha.less (less_cons rfl (less_cons rfl (less_cons rfl (less_cons rfl (less_cons rfl less_nil))))), hM, hF⟩
                    · rw [if_neg (ne_true hc)] at hF
                      refine RL.gval rfl rfl (O.move rfl) rfl ?_
                      refine RL.gval rfl rfl (O.neq rfl rfl) rfl ?_
                      refine RL.val (O.pickf rfl rfl) rfl ?_
                      refine RL.val (O.move rfl) rfl ?_
                      refine RL.bcase (t := 156) rfl (fun hc => ?_) (fun hc => ?_)
                      · rw [if_pos hc] at hF
                        refine RL.gskip rfl rfl rfl rfl ?_
                        refine RL.gskip rfl rfl rfl rfl ?_
                        refine RL.gskip rfl rfl rfl rfl ?_
                        refine RL.val (O.pickt rfl rfl) rfl ?_
                        refine RL.nil ?_
                        refine KQ.then_k ?_
                        have hM := hM.pick [2, 5] rfl (by decide)
                        exact fun a ha => ⟨true, ha.less (less_cons rfl (less_cons rfl (less_cons rfl (less_cons rfl (less_cons rfl less_nil))))), hM, hF⟩
                      · rw [if_neg (ne_true hc)] at hF
                        refine RL.gval rfl rfl (O.move rfl) rfl ?_
                        refine RL.gval rfl rfl (O.move rfl) rfl ?_
                        refine RL.gval rfl rfl (O.neq rfl rfl) rfl ?_
                        refine RL.val (O.pickf rfl rfl) rfl ?_
                        refine RL.nil ?_
                        refine KQ.then_k ?_
                        have hM := hM.pick [2, 5] rfl (by decide)
                        exact fun a ha => ⟨(y377.1 != v10), ha.less (less_cons rfl (less_cons rfl (less_cons rfl (less_cons rfl (less_cons rfl less_nil))))), hM, hF⟩
                  · rintro a w384 ⟨t383, ha, hM, hF⟩
                    refine KC.app ha ?_
                    clear ha
                    unfold F_law01_BitsBack_j8 at hF
                    refine KC.cond rfl (fun hc => ?_) (fun hc => ?_)
                    · rw [if_pos hc] at hF
                      refine KC.seq ?_
                      refine KC.region ?_
                      refine RL.val (O.assign rfl) rfl ?_
                      refine RL.nil ?_
                      refine KQ.then_n ?_
                      refine KC.ret ?_
                      refine KQ.then_r ?_
                      obtain rfl := Option.some.inj hF
                      have hM := hM.pick [] rfl (by decide)
                      refine KQ.rets Try.results5 (RVs.cons (RV.tm rfl) RVs.nil) ?_
                      exact ⟨_, rfl, rfl, hM⟩
                    · rw [if_neg (ne_true hc)] at hF
                      refine KC.skip ?_
                      refine KQ.then_n ?_
                      refine KC.seq ?_
                      refine KC.seq ?_
                      refine KC.region ?_
                      refine RL.val (O.assign rfl) rfl ?_
                      refine RL.nil ?_
                      refine KQ.then_n ?_
                      refine KC.block ?_
                      refine KC.loop (fun k425 a w423 => ∃ (i422 : Int), Kn 189 [(2, .int .i64 atv9), (17, .slice A305 (y298.1).length c306), (18, .int .i64 y308), (19, .slice A374 (y367.1).length c375), (22, .int .i64 i422)] a ∧ Mem w [] w423 [.row A305 c306 5 1 (y298.1).length ((y298.1).flatMap (eI .u8)), .row A374 c375 5 1 (y367.1).length ((y367.1).flatMap (eI .u8))] ∧ F_law01_BitsBack_L3 atv9 y298 y308 y367 k425 i422 = some r) ?_ ?_
                      · exact fun a ha => ⟨fuel0, 0, ha.less (less_cons rfl (less_cons rfl (less_cons rfl (less_cons rfl (less_cons rfl less_nil))))), hM, hF⟩
                      · rintro k425 a w423 ⟨i422, ha, hM, hF⟩
                        refine KC.app ha ?_
                        clear ha
                        cases k425 with
                        | zero => exact (none_some hF).elim
                        | succ k425 =>
                        have hF : F_law01_BitsBack_l3 (F_law01_BitsBack_L3 atv9 y298 y308 y367 k425) atv9 y298 y308 y367 i422 = some r := hF
                        unfold F_law01_BitsBack_l3 at hF
                        refine KC.seq ?_
                        refine KC.seq ?_
                        refine KC.region ?_
                        refine RL.val (O.move rfl) rfl ?_
                        refine RL.val (O.move rfl) rfl ?_
                        refine RL.val (O.len sl22 rfl) rfl ?_
                        refine RL.val (O.lss rfl rfl) rfl ?_
                        refine RL.nil ?_
                        refine KQ.then_n ?_
                        refine KC.cond rfl (fun hc => ?_) (fun hc => ?_)
                        · rw [if_pos hc] at hF
                          refine KC.skip ?_
                          refine KQ.then_n ?_
                          refine KC.seq ?_
                          refine KC.block ?_
                          refine KC.cut (fun a w441 => ∃ (t440 : Bool), Kn 189 [(2, .int .i64 atv9), (17, .slice A305 (y298.1).length c306), (18, .int .i64 y308), (19, .slice A374 (y367.1).length c375), (22, .int .i64 i422), (187, .bool t440)] a ∧ Mem w [] w441 [.row A305 c306 5 1 (y298.1).length ((y298.1).flatMap (eI .u8)), .row A374 c375 5 1 (y367.1).length ((y367.1).flatMap (eI .u8))] ∧ F_law01_BitsBack_j9 i422 (F_law01_BitsBack_L3 atv9 y298 y308 y367 k425) t440 = some r) ?_ ?_
                          · have hM := hM.drewN 1
                            refine KC.draw [] [] (.ofList [0, 1, 2, 3, 4, 5, 6, 7, 8, 9, 10, 11, 12, 13, 14, 15, 16, 17, 18, 19, 20]) moP (by kernel_rfl) ?_
                            refine RD.q rfl rfl rfl (fun w' hf => O.move rfl) ?_
                            refine RD.q rfl rfl rfl (fun w' hf => O.move rfl) ?_
                            refine RD.q rfl rfl rfl (fun w' hf => O.lss rfl rfl) ?_
                            refine RD.q rfl rfl rfl (fun w' hf => O.move rfl) ?_
                            refine RD.bcase (t := 170) rfl (fun hc => ?_) (fun hc => ?_)
                            · rw [if_pos hc] at hF
                              refine RD.gskip rfl rfl rfl rfl rfl ?_
                              refine RD.gskip rfl rfl rfl rfl rfl ?_
                              refine RD.gskip rfl rfl rfl rfl rfl ?_
                              refine RD.gskip rfl rfl rfl rfl rfl ?_
                              refine RD.gskip rfl rfl rfl rfl rfl ?_
                              refine RD.q rfl rfl rfl (fun w' hf => O.pickt rfl rfl) ?_
                              refine RD.q rfl rfl rfl (fun w' hf => O.move rfl) ?_
                              refine RD.gq rfl rfl rfl rfl rfl (fun w' hf => O.move rfl) ?_
                              refine RD.gq rfl rfl rfl rfl rfl (fun w' hf => O.move rfl) ?_
                              obtain ⟨xv428, hx427, hF⟩ := obind hF
                              have hA426 := Rd.atN (f := (eI .u8)) (s := 1) (fun _ => rfl) (by decide) (hM.rd (i := 1) rfl) hx427
                              refine RD.gq rfl rfl rfl rfl rfl (fun w' hf => O.idxA sl22 (hA426.fut hf) rfl rfl) ?_
                              refine RD.gq rfl rfl rfl rfl rfl (fun w' hf => O.load sc5 rfl (hA426.fut hf).cells.at0) ?_
                              refine RD.gq rfl rfl rfl rfl rfl (fun w' hf => O.move rfl) ?_
                              refine RD.gq rfl rfl rfl rfl rfl (fun w' hf => O.move rfl) ?_
                              obtain ⟨xv431, hx430, hF⟩ := obind hF
                              have hA429 := Rd.atN (f := (eI .u8)) (s := 1) (fun _ => rfl) (by decide) (hM.rd (i := 0) rfl) hx430
                              refine RD.gq rfl rfl rfl rfl rfl (fun w' hf => O.idxA sl22 (hA429.fut hf) rfl rfl) ?_
                              refine RD.gq rfl rfl rfl rfl rfl (fun w' hf => O.load sc5 rfl (hA429.fut hf).cells.at0) ?_
                              refine RD.gq rfl rfl rfl rfl rfl (fun w' hf => O.neq rfl rfl) ?_
                              refine RD.q rfl rfl rfl (fun w' hf => O.pickt rfl rfl) ?_
                              refine RD.nil ?_
                              refine KQ.then_k ?_
                              exact fun a ha => ⟨(xv428 != xv431), ha.less (less_cons rfl (less_cons rfl (less_cons rfl (less_cons rfl (less_cons rfl (less_cons rfl less_nil)))))), hM, hF⟩
                            · rw [if_neg (ne_true hc)] at hF
                              refine RD.gq rfl rfl rfl rfl rfl (fun w' hf => O.move rfl) ?_
                              refine RD.gq rfl rfl rfl rfl rfl (fun w' hf => O.move rfl) ?_
                              refine RD.gq rfl rfl rfl rfl rfl (fun w' hf => O.move rfl) ?_
                              refine RD.gq rfl rfl rfl rfl rfl (fun w' hf => O.add rfl rfl) ?_
                              refine RD.gq rfl rfl rfl rfl rfl (fun w' hf => O.geq rfl rfl) ?_
                              refine RD.q rfl rfl rfl (fun w' hf => O.pickf rfl rfl) ?_
                              refine RD.q rfl rfl rfl (fun w' hf => O.move rfl) ?_
                              refine RD.bcase (t := 177) rfl (fun hc => ?_) (fun hc => ?_)
                              · rw [if_pos hc] at hF
                                refine RD.gq rfl rfl rfl rfl rfl (fun w' hf => O.move rfl) ?_
                                refine RD.gq rfl rfl rfl rfl rfl (fun w' hf => O.move rfl) ?_
                                obtain ⟨xv434, hx433, hF⟩ := obind hF
                                have hA432 := Rd.atN (f := (eI .u8)) (s := 1) (fun _ => rfl) (by decide) (hM.rd (i := 1) rfl) hx433
                                refine RD.gq rfl rfl rfl rfl rfl (fun w' hf => O.idxA sl22 (hA432.fut hf) rfl rfl) ?_
                                refine RD.gq rfl rfl rfl rfl rfl (fun w' hf => O.load sc5 rfl (hA432.fut hf).cells.at0) ?_
                                refine RD.gq rfl rfl rfl rfl rfl (fun w' hf => O.move rfl) ?_
                                refine RD.gq rfl rfl rfl rfl rfl (fun w' hf => O.move rfl) ?_
                                obtain ⟨xv437, hx436, hF⟩ := obind hF
                                have hA435 := Rd.atN (f := (eI .u8)) (s := 1) (fun _ => rfl) (by decide) (hM.rd (i := 0) rfl) hx436
                                refine RD.gq rfl rfl rfl rfl rfl (fun w' hf => O.idxA sl22 (hA435.fut hf) rfl rfl) ?_
                                refine RD.gq rfl rfl rfl rfl rfl (fun w' hf => O.load sc5 rfl (hA435.fut hf).cells.at0) ?_
                                refine RD.gq rfl rfl rfl rfl rfl (fun w' hf => O.neq rfl rfl) ?_
                                refine RD.q rfl rfl rfl (fun w' hf => O.pickt rfl rfl) ?_
                                refine RD.nil ?_
                                refine KQ.then_k ?_
                                exact fun a ha => ⟨(xv434 != xv437), ha.less (less_cons rfl (less_cons rfl (less_cons rfl (less_cons rfl (less_cons rfl (less_cons rfl less_nil)))))), hM, hF⟩
                              · rw [if_neg (ne_true hc)] at hF
                                refine RD.gskip rfl rfl rfl rfl rfl ?_
                                refine RD.gskip rfl rfl rfl rfl rfl ?_
                                refine RD.gskip rfl rfl rfl rfl rfl ?_
                                refine RD.gskip rfl rfl rfl rfl rfl ?_
                                refine RD.gskip rfl rfl rfl rfl rfl ?_
                                refine RD.gskip rfl rfl rfl rfl rfl ?_
                                refine RD.gskip rfl rfl rfl rfl rfl ?_
                                refine RD.gskip rfl rfl rfl rfl rfl ?_
                                refine RD.gskip rfl rfl rfl rfl rfl ?_
                                refine RD.q rfl rfl rfl (fun w' hf => O.pickf rfl rfl) ?_
                                refine RD.nil ?_
                                refine KQ.then_k ?_
                                exact fun a ha => ⟨false, ha.less (less_cons rfl (less_cons rfl (less_cons rfl (less_cons rfl (less_cons rfl (less_cons rfl less_nil)))))), hM, hF⟩
                          · rintro a w441 ⟨t440, ha, hM, hF⟩
                            refine KC.app ha ?_
                            clear ha
                            unfold F_law01_BitsBack_j9 at hF
                            refine KC.cond rfl (fun hc => ?_) (fun hc => ?_)
                            · rw [if_pos hc] at hF
                              refine KC.seq ?_
                              refine KC.region ?_
                              refine RL.val (O.assign rfl) rfl ?_
                              refine RL.nil ?_
                              refine KQ.then_n ?_
                              refine KC.ret ?_
                              refine KQ.blk_r ?_
                              refine KQ.then_r ?_
                              refine KQ.then_r ?_
                              refine KQ.blk_r ?_
                              refine KQ.then_r ?_
                              obtain rfl := Option.some.inj hF
                              have hM := hM.pick [] rfl (by decide)
                              refine KQ.rets Try.results5 (RVs.cons (RV.tm rfl) RVs.nil) ?_
                              exact ⟨_, rfl, rfl, hM⟩
                            · rw [if_neg (ne_true hc)] at hF
                              refine KC.skip ?_
                              refine KQ.blk_n ?_
                              refine KQ.then_n ?_
                              refine KC.region ?_
                              refine RL.val (O.move rfl) rfl ?_
                              refine RL.val (O.add rfl rfl) rfl ?_
                              refine RL.val (O.assign rfl) rfl ?_
                              refine RL.nil ?_
                              refine KQ.then_k ?_
                              exact fun a ha => ⟨k425, Nat.lt_succ_self k425, (IntKind.i64.wrap (i422 + 1)), ha.less (less_cons rfl (less_cons rfl (less_cons rfl (less_cons rfl (less_cons rfl less_nil))))), hM, hF⟩
                        · rw [if_neg (ne_true hc)] at hF
                          refine KC.exit ?_
                          refine KQ.then_x ?_
                          refine KQ.then_x ?_
                          refine KQ.blk_x ?_
                          refine KQ.then_n ?_
                          refine KC.seq ?_
                          refine KC.region ?_
                          obtain ⟨y442, hx443, hF⟩ := obind hF
                          refine RL.call Try.func9 bd9 rfl rfl (c_law01_works _ _ hx443) fun v w444 hv => ?_
                          obtain ⟨rfl, hN445⟩ := hv
                          have hM := hM.call0 hN445
                          refine RL.val (O.assign rfl) rfl ?_
                          refine RL.nil ?_
                          refine KQ.then_n ?_
                          refine KC.ret ?_
                          obtain rfl := Option.some.inj hF
                          have hM := hM.pick [] rfl (by decide)
                          refine KQ.rets Try.results5 (RVs.cons (RV.tm rfl) RVs.nil) ?_
                          exact ⟨_, rfl, rfl, hM⟩
end Go.Proofs.Ytpbkjellpboefaa
