/- Printed by a program of this claim: each call returns what the plain function of its name gives. -/
import Derived.Test.YtjfdfjmnajjjaaaW1
import Derived.Test.YtjfdfjmnajjjaaaW5
import Derived.Test.YtjfdfjmnajjjaaaW6
import Derived.Test.YtjfdfjmnajjjaaaW7
import Derived.Test.YtjfdfjmnajjjaaaW8
import Derived.Test.YtjfdfjmnajjjaaaW9
import Derived.Test.YtjfdfjmnajjjaaaW12
import Derived.Test.YtjfdfjmnajjjaaaW14
import Derived.Test.YtjfdfjmnajjjaaaW15
set_option linter.unusedVariables false
namespace Go.Proofs.Ytjfdfjmnajjjaaa
open Go Go.Ox Go.RowKit
set_option maxRecDepth 100000 in
set_option maxHeartbeats 40000000 in
theorem c_law05_IpParses (w : World) (A2 : Option Addr) (c3 : Nat) (b1 : List Int) (hr4 : Rd w A2 c3 1 b1.length (b1.flatMap (eI .u8))) (r : Bool) (hF : F_law05_IpParses b1 = some r) :
    CallsR Try.prog 6 [.slice A2 (b1).length c3] w (fun v w' => v = .bool r ∧ Mem w [] w' []) := by
  refine calls_KC Try.func6 rfl Try.ntmps6 rfl ?_
  have hM := Mem.init w
  unfold F_law05_IpParses at hF
  refine KC.seq ?_
  refine KC.region ?_
  refine RL.val (O.assign rfl) rfl ?_
  refine RL.nil ?_
  refine KQ.then_n ?_
  refine KC.seq ?_
  refine KC.seq ?_
  refine KC.region ?_
  refine RL.val (O.move rfl) rfl ?_
  refine RL.val (O.len sl22 rfl) rfl ?_
  refine RL.val (O.gtr rfl rfl) rfl ?_
  refine RL.nil ?_
  refine KQ.then_n ?_
  refine KC.cond rfl (fun hc => ?_) (fun hc => ?_)
  · rw [if_pos hc] at hF
    refine KC.seq ?_
    refine KC.region ?_
    refine obindE hF fun y5 hx6 hF => ?_
    refine RL.call Try.func8 bd8 rfl rfl (c_law05_works _ _ hx6) fun v w7 hv => ?_
    obtain ⟨rfl, hN8⟩ := hv
    replace hM := hM.call0 hN8
    refine RL.val (O.assign rfl) rfl ?_
    refine RL.nil ?_
    refine KQ.then_n ?_
    refine KC.ret ?_
    refine KQ.then_r ?_
    have hE := Option.some.inj hF
    clear hF
    subst hE
    refine KQ.rets Try.results6 (RVs.cons (RV.tm rfl) RVs.nil) ?_
    exact ⟨_, rfl, rfl, hM⟩
  · rw [if_neg (ne_true hc)] at hF
    refine KC.skip ?_
    refine KQ.then_n ?_
    refine KC.seq ?_
    refine KC.region ?_
    refine RL.val (O.move rfl) rfl ?_
    refine obindE hF fun y9 hx10 hF => ?_
    refine RL.call Try.func18 bd18 rfl rfl (c_ref01_Join _ none 0 [] Rd.nilr _ _ b1 (hM.inp hr4 Off.nil) _ hx10) fun v w11 hv => ?_
    obtain ⟨A13, c14, rfl, hN12⟩ := hv
    replace hM := hM.call hN12
    refine RL.val (O.assign rfl) rfl ?_
    refine RL.nil ?_
    refine KQ.then_n ?_
    refine KC.seq ?_
    refine KC.region ?_
    refine RL.val (O.move rfl) rfl ?_
    refine obindE hF fun y16 hx17 hF => ?_
    refine RL.call Try.func22 bd22 rfl rfl (c_ref05_Parse _ _ _ b1 (hM.inp hr4 Off.nil) _ hx17) fun v w18 hv => ?_
    obtain ⟨rfl, hN19⟩ := hv
    replace hM := hM.call0 hN19
    refine RL.val (O.move rfl) rfl ?_
    refine RL.val (O.ext rfl rfl) rfl ?_
    refine RL.val (O.ext rfl rfl) rfl ?_
    refine RL.val (O.ext rfl rfl) rfl ?_
    refine RL.eff (E.alloc hM ze41) rfl fun v w21 hv => ?_
    clear hM
    obtain ⟨g20, rfl, hM, hf⟩ := hv
    refine RL.effs (E.stB (j := 1) (off := 0) (vs := [.int .u8 y16.1.f_TOS, .int .u16 y16.1.f_Total, .int .u16 y16.1.f_ID, .bool y16.1.f_DF, .bool y16.1.f_MF, .int .u16 y16.1.f_Frag, .int .u8 y16.1.f_TTL, .int .u8 y16.1.f_Proto, .string y16.1.f_Src, .string y16.1.f_Dst, .string y16.1.f_Options]) (cs' := [.int .u8 y16.1.f_TOS, .int .u16 y16.1.f_Total, .int .u16 y16.1.f_ID, .bool y16.1.f_DF, .bool y16.1.f_MF, .int .u16 y16.1.f_Frag, .int .u8 y16.1.f_TTL, .int .u8 y16.1.f_Proto, .string y16.1.f_Src, .string y16.1.f_Dst, .string y16.1.f_Options]) hM rfl sz41 rfl (adds_eq [] rfl) rfl rfl (One.all rfl) rfl rfl) fun w23 hM1 => ?_
    clear hM
    have hM := hM1
    clear hM1
    refine RL.val (O.assign rfl) rfl ?_
    refine RL.val (O.assign rfl) rfl ?_
    refine RL.nil ?_
    refine KQ.then_n ?_
    refine KC.seq ?_
    refine KC.region ?_
    refine RL.val (O.move rfl) rfl ?_
    refine obindE hF fun y24 hx25 hF => ?_
    refine RL.call Try.func23 bd23 rfl rfl (c_ref05_Body _ _ _ b1 (hM.inp hr4 Off.nil) _ hx25) fun v w26 hv => ?_
    obtain ⟨A28, c29, rfl, ha30, hN27⟩ := hv
    replace hM := hM.call0 hN27
    have hr31 := ha30 _ hr4
    refine RL.val (O.move rfl) rfl ?_
    refine RL.val (O.ext rfl rfl) rfl ?_
    refine RL.val (O.ext rfl rfl) rfl ?_
    refine RL.val (O.assign rfl) rfl ?_
    refine RL.val (O.assign rfl) rfl ?_
    refine RL.nil ?_
    refine KQ.then_n ?_
    refine KC.seq ?_
    refine KC.region ?_
    refine RL.val (O.move rfl) rfl ?_
    refine obindE hF fun y32 hx33 hF => ?_
    refine RL.call Try.func24 bd24 rfl rfl (c_ref05_Hop _ _ _ b1 (hM.inp hr4 Off.nil) _ hx33) fun v w34 hv => ?_
    obtain ⟨A36, c37, rfl, hN35⟩ := hv
    replace hM := hM.call hN35
    refine RL.val (O.move rfl) rfl ?_
    refine RL.val (O.ext rfl rfl) rfl ?_
    refine RL.val (O.ext rfl rfl) rfl ?_
    refine RL.val (O.assign rfl) rfl ?_
    refine RL.val (O.assign rfl) rfl ?_
    refine RL.nil ?_
    refine KQ.then_n ?_
    refine KC.seq ?_
    refine KC.seq ?_
    refine KC.region ?_
    refine RL.val (O.assign rfl) rfl ?_
    refine RL.nil ?_
    refine KQ.then_n ?_
    refine KC.block ?_
    refine KC.loop (fun k423 a w421 => ∃ (t420 : Int), Kn 145 [(0, .slice A2 (b1).length c3), (3, .slice A13 (y9).length c14), (4, .pointer (some ⟨g20, 0, none⟩)), (5, .int .i64 y16.2.1), (6, .int .i64 y16.2.2), (7, .slice A28 (y24.1).length c29), (8, .int .i64 y24.2), (9, .slice A36 (y32.1).length c37), (10, .int .i64 y32.2), (11, .int .i64 t420)] a ∧ Mem w [] w421 [.row A13 c14 5 1 (y9).length ((y9).flatMap (eI .u8)), .box g20 41 [.int .u8 y16.1.f_TOS, .int .u16 y16.1.f_Total, .int .u16 y16.1.f_ID, .bool y16.1.f_DF, .bool y16.1.f_MF, .int .u16 y16.1.f_Frag, .int .u8 y16.1.f_TTL, .int .u8 y16.1.f_Proto, .string y16.1.f_Src, .string y16.1.f_Dst, .string y16.1.f_Options], .row A36 c37 5 1 (y32.1).length ((y32.1).flatMap (eI .u8))] ∧ F_law05_IpParses_L1 b1 y9 y16 y24 y32 k423 t420 = some r) ?_ ?_
    · exact fun a ha => ⟨fuel0, 0, ha.less (less_cons rfl (less_cons rfl (less_cons rfl (less_cons rfl (less_cons rfl (less_cons rfl (less_cons rfl (less_cons rfl (less_cons rfl (less_cons rfl less_nil)))))))))), hM, hF⟩
    · rintro k423 a w421 ⟨t420, ha, hM, hF⟩
      refine KC.app ha ?_
      clear ha
      cases k423 with
      | zero => exact (none_some hF).elim
      | succ k423 =>
      have hF : F_law05_IpParses_l1 (F_law05_IpParses_L1 b1 y9 y16 y24 y32 k423) b1 y9 y16 y24 y32 t420 = some r := hF
      unfold F_law05_IpParses_l1 at hF
      refine KC.seq ?_
      refine KC.seq ?_
      refine KC.region ?_
      refine RL.val (O.move rfl) rfl ?_
      refine RL.val (O.lss rfl rfl) rfl ?_
      refine RL.nil ?_
      refine KQ.then_n ?_
      refine KC.cond rfl (fun hc => ?_) (fun hc => ?_)
      · rw [if_pos hc] at hF
        refine KC.skip ?_
        refine KQ.then_n ?_
        refine KC.seq ?_
        refine KC.block ?_
        refine KC.seq ?_
        refine KC.region ?_
        refine RL.val (O.move rfl) rfl ?_
        refine obindE hF fun y424 hx425 hF => ?_
        refine RL.call Try.func19 bd19 rfl rfl (c_ip_Parse _ _ _ b1 (hM.inp hr4 Off.nil) _ hx425) fun v w426 hv => ?_
        obtain ⟨A428, c429, rfl, hN427⟩ := hv
        replace hM := hM.call hN427
        refine RL.val (O.move rfl) rfl ?_
        refine RL.val (O.ext rfl rfl) rfl ?_
        refine RL.val (O.ext rfl rfl) rfl ?_
        refine RL.val (O.ext rfl rfl) rfl ?_
        refine RL.eff (E.alloc hM ze39) rfl fun v w432 hv => ?_
        clear hM
        obtain ⟨g431, rfl, hM, hf⟩ := hv
        refine RL.effs (E.stB (j := 4) (off := 0) (vs := [.int .u8 y424.1.f_TOS, .int .u16 y424.1.f_Total, .int .u16 y424.1.f_ID, .bool y424.1.f_DF, .bool y424.1.f_MF, .int .u16 y424.1.f_Frag, .int .u8 y424.1.f_TTL, .int .u8 y424.1.f_Proto, .int .u8 (List.getD y424.1.f_Src 0 0), .int .u8 (List.getD y424.1.f_Src 1 0), .int .u8 (List.getD y424.1.f_Src 2 0), .int .u8 (List.getD y424.1.f_Src 3 0), .int .u8 (List.getD y424.1.f_Dst 0 0), .int .u8 (List.getD y424.1.f_Dst 1 0), .int .u8 (List.getD y424.1.f_Dst 2 0), .int .u8 (List.getD y424.1.f_Dst 3 0), .slice A428 (y424.1.f_Options).length c429]) (cs' := [.int .u8 y424.1.f_TOS, .int .u16 y424.1.f_Total, .int .u16 y424.1.f_ID, .bool y424.1.f_DF, .bool y424.1.f_MF, .int .u16 y424.1.f_Frag, .int .u8 y424.1.f_TTL, .int .u8 y424.1.f_Proto, .int .u8 (List.getD y424.1.f_Src 0 0), .int .u8 (List.getD y424.1.f_Src 1 0), .int .u8 (List.getD y424.1.f_Src 2 0), .int .u8 (List.getD y424.1.f_Src 3 0), .int .u8 (List.getD y424.1.f_Dst 0 0), .int .u8 (List.getD y424.1.f_Dst 1 0), .int .u8 (List.getD y424.1.f_Dst 2 0), .int .u8 (List.getD y424.1.f_Dst 3 0), .slice A428 (y424.1.f_Options).length c429]) hM rfl sz39 rfl (adds_eq [] rfl) rfl rfl (One.all rfl) rfl rfl) fun w434 hM1 => ?_
        clear hM
        have hM := hM1
        clear hM1
        refine RL.val (O.assign rfl) rfl ?_
        refine RL.val (O.assign rfl) rfl ?_
        refine RL.nil ?_
        refine KQ.then_n ?_
        refine KC.seq ?_
        refine KC.region ?_
        refine RL.val (O.move rfl) rfl ?_
        refine obindE hF fun y435 hx436 hF => ?_
        refine RL.call Try.func25 bd25 rfl rfl (c_ip_Body _ _ _ b1 (hM.inp hr4 Off.nil) _ hx436) fun v w437 hv => ?_
        obtain ⟨A439, c440, rfl, hN438⟩ := hv
        replace hM := hM.call hN438
        refine RL.val (O.move rfl) rfl ?_
        refine RL.val (O.ext rfl rfl) rfl ?_
        refine RL.val (O.ext rfl rfl) rfl ?_
        refine RL.val (O.assign rfl) rfl ?_
        refine RL.val (O.assign rfl) rfl ?_
        refine RL.nil ?_
        refine KQ.then_n ?_
        refine KC.seq ?_
        refine KC.region ?_
        refine RL.val (O.move rfl) rfl ?_
        refine obindE hF fun y442 hx443 hF => ?_
        refine RL.call Try.func21 bd21 rfl rfl (c_ip_Hop _ _ _ b1 (hM.inp hr4 Off.nil) _ hx443) fun v w444 hv => ?_
        obtain ⟨A446, c447, rfl, hN445⟩ := hv
        replace hM := hM.call hN445
        refine RL.val (O.move rfl) rfl ?_
        refine RL.val (O.ext rfl rfl) rfl ?_
        refine RL.val (O.ext rfl rfl) rfl ?_
        refine RL.val (O.assign rfl) rfl ?_
        refine RL.val (O.assign rfl) rfl ?_
        refine RL.nil ?_
        refine KQ.then_n ?_
        refine KC.seq ?_
        refine KC.cut (fun a w473 => ∃ (t472 : Bool), Kn 145 [(0, .slice A2 (b1).length c3), (3, .slice A13 (y9).length c14), (4, .pointer (some ⟨g20, 0, none⟩)), (5, .int .i64 y16.2.1), (6, .int .i64 y16.2.2), (7, .slice A28 (y24.1).length c29), (8, .int .i64 y24.2), (9, .slice A36 (y32.1).length c37), (10, .int .i64 y32.2), (11, .int .i64 t420), (12, .pointer (some ⟨g431, 0, none⟩)), (15, .slice A439 (y435.1).length c440), (17, .slice A446 (y442.1).length c447), (100, .bool t472)] a ∧ Mem w [] w473 [.row A13 c14 5 1 (y9).length ((y9).flatMap (eI .u8)), .box g20 41 [.int .u8 y16.1.f_TOS, .int .u16 y16.1.f_Total, .int .u16 y16.1.f_ID, .bool y16.1.f_DF, .bool y16.1.f_MF, .int .u16 y16.1.f_Frag, .int .u8 y16.1.f_TTL, .int .u8 y16.1.f_Proto, .string y16.1.f_Src, .string y16.1.f_Dst, .string y16.1.f_Options], .row A36 c37 5 1 (y32.1).length ((y32.1).flatMap (eI .u8)), .row A428 c429 5 1 (y424.1.f_Options).length ((y424.1.f_Options).flatMap (eI .u8)), .box g431 39 [.int .u8 y424.1.f_TOS, .int .u16 y424.1.f_Total, .int .u16 y424.1.f_ID, .bool y424.1.f_DF, .bool y424.1.f_MF, .int .u16 y424.1.f_Frag, .int .u8 y424.1.f_TTL, .int .u8 y424.1.f_Proto, .int .u8 (List.getD y424.1.f_Src 0 0), .int .u8 (List.getD y424.1.f_Src 1 0), .int .u8 (List.getD y424.1.f_Src 2 0), .int .u8 (List.getD y424.1.f_Src 3 0), .int .u8 (List.getD y424.1.f_Dst 0 0), .int .u8 (List.getD y424.1.f_Dst 1 0), .int .u8 (List.getD y424.1.f_Dst 2 0), .int .u8 (List.getD y424.1.f_Dst 3 0), .slice A428 (y424.1.f_Options).length c429], .row A439 c440 5 1 (y435.1).length ((y435.1).flatMap (eI .u8)), .row A446 c447 5 1 (y442.1).length ((y442.1).flatMap (eI .u8))] ∧ F_law05_IpParses_j1 t420 (F_law05_IpParses_L1 b1 y9 y16 y24 y32 k423) y424 y435 y442 t472 = some r) ?_ ?_
        · replace hM := hM.drewN 1
          refine KC.draw [] [] [10, 12, 23, 34] [0, 1, 2, 3, 4, 5, 6, 7, 8, 13, 14, 15, 16, 17, 18, 19, 20, 21, 22, 24, 25, 26, 27, 28, 29, 30, 31, 32, 33, 35, 36] (.ofList [0, 1, 2, 3, 4, 5, 6, 7, 8, 9, 11, 10, 12, 13, 14, 15, 16, 17, 18, 19, 20, 21, 22, 23, 24, 25, 26, 27, 28, 29, 30, 31, 32, 33, 34, 35, 36]) moP (by kernel_rfl) ?_
          refine RD.p rfl rfl rfl rfl (fun w' => O.move rfl) ?_
          refine RD.p rfl rfl rfl rfl (fun w' => O.move rfl) ?_
          refine RD.p rfl rfl rfl rfl (fun w' => O.neq rfl rfl) ?_
          refine RD.p rfl rfl rfl rfl (fun w' => O.move rfl) ?_
          refine RD.bcase (t := 67) rfl (fun hc => ?_) (fun hc => ?_)
          · rw [if_pos hc] at hF
            refine RD.gskip rfl rfl rfl rfl rfl ?_
            refine RD.gskip rfl rfl rfl rfl rfl ?_
            refine RD.gskip rfl rfl rfl rfl rfl ?_
            refine RD.p rfl rfl rfl rfl (fun w' => O.pickt rfl rfl) ?_
            refine RD.p rfl rfl rfl rfl (fun w' => O.move rfl) ?_
            refine RD.gskip rfl rfl rfl rfl rfl ?_
            refine RD.gskip rfl rfl rfl rfl rfl ?_
            refine RD.gskip rfl rfl rfl rfl rfl ?_
            refine RD.gskip rfl rfl rfl rfl rfl ?_
            refine RD.gskip rfl rfl rfl rfl rfl ?_
            refine RD.p rfl rfl rfl rfl (fun w' => O.pickt rfl rfl) ?_
            refine RD.p rfl rfl rfl rfl (fun w' => O.move rfl) ?_
            refine RD.gskip rfl rfl rfl rfl rfl ?_
            refine RD.gskip rfl rfl rfl rfl rfl ?_
            refine RD.gskip rfl rfl rfl rfl rfl ?_
            refine RD.p rfl rfl rfl rfl (fun w' => O.pickt rfl rfl) ?_
            refine RD.p rfl rfl rfl rfl (fun w' => O.move rfl) ?_
            refine RD.gskip rfl rfl rfl rfl rfl ?_
            refine RD.gskip rfl rfl rfl rfl rfl ?_
            refine RD.gskip rfl rfl rfl rfl rfl ?_
            refine RD.gskip rfl rfl rfl rfl rfl ?_
            refine RD.p rfl rfl rfl rfl (fun w' => O.pickt rfl rfl) ?_
            refine RD.p rfl rfl rfl rfl (fun w' => O.move rfl) ?_
            refine RD.gskip rfl rfl rfl rfl rfl ?_
            refine RD.gskip rfl rfl rfl rfl rfl ?_
            refine RD.gskip rfl rfl rfl rfl rfl ?_
            refine RD.p rfl rfl rfl rfl (fun w' => O.pickt rfl rfl) ?_
            refine RD.p rfl rfl rfl rfl (fun w' => O.move rfl) ?_
            refine RD.gskip rfl rfl rfl rfl rfl ?_
            refine RD.gskip rfl rfl rfl rfl rfl ?_
            refine RD.gskip rfl rfl rfl rfl rfl ?_
            refine RD.gskip rfl rfl rfl rfl rfl ?_
            refine RD.p rfl rfl rfl rfl (fun w' => O.pickt rfl rfl) ?_
            refine RD.nil ?_
            refine KQ.then_k ?_
            exact fun a ha => ⟨true, ha.less (less_cons rfl (less_cons rfl (less_cons rfl (less_cons rfl (less_cons rfl (less_cons rfl (less_cons rfl (less_cons rfl (less_cons rfl (less_cons rfl (less_cons rfl (less_cons rfl (less_cons rfl (less_cons rfl less_nil)))))))))))))), hM, hF⟩
          · rw [if_neg (ne_true hc)] at hF
            refine RD.gp rfl rfl rfl rfl rfl rfl (fun w' => O.move rfl) ?_
            refine RD.gp rfl rfl rfl rfl rfl rfl (fun w' => O.move rfl) ?_
            refine RD.gp rfl rfl rfl rfl rfl rfl (fun w' => O.neq rfl rfl) ?_
            refine RD.p rfl rfl rfl rfl (fun w' => O.pickf rfl rfl) ?_
            refine RD.p rfl rfl rfl rfl (fun w' => O.move rfl) ?_
            refine RD.bcase (t := 72) rfl (fun hc => ?_) (fun hc => ?_)
            · rw [if_pos hc] at hF
              refine RD.gskip rfl rfl rfl rfl rfl ?_
              refine RD.gskip rfl rfl rfl rfl rfl ?_
              refine RD.gskip rfl rfl rfl rfl rfl ?_
              refine RD.gskip rfl rfl rfl rfl rfl ?_
              refine RD.gskip rfl rfl rfl rfl rfl ?_
              refine RD.p rfl rfl rfl rfl (fun w' => O.pickt rfl rfl) ?_
              refine RD.p rfl rfl rfl rfl (fun w' => O.move rfl) ?_
              refine RD.gskip rfl rfl rfl rfl rfl ?_
              refine RD.gskip rfl rfl rfl rfl rfl ?_
              refine RD.gskip rfl rfl rfl rfl rfl ?_
              refine RD.p rfl rfl rfl rfl (fun w' => O.pickt rfl rfl) ?_
              refine RD.p rfl rfl rfl rfl (fun w' => O.move rfl) ?_
              refine RD.gskip rfl rfl rfl rfl rfl ?_
              refine RD.gskip rfl rfl rfl rfl rfl ?_
              refine RD.gskip rfl rfl rfl rfl rfl ?_
              refine RD.gskip rfl rfl rfl rfl rfl ?_
              refine RD.p rfl rfl rfl rfl (fun w' => O.pickt rfl rfl) ?_
              refine RD.p rfl rfl rfl rfl (fun w' => O.move rfl) ?_
              refine RD.gskip rfl rfl rfl rfl rfl ?_
              refine RD.gskip rfl rfl rfl rfl rfl ?_
              refine RD.gskip rfl rfl rfl rfl rfl ?_
              refine RD.p rfl rfl rfl rfl (fun w' => O.pickt rfl rfl) ?_
              refine RD.p rfl rfl rfl rfl (fun w' => O.move rfl) ?_
              refine RD.gskip rfl rfl rfl rfl rfl ?_
              refine RD.gskip rfl rfl rfl rfl rfl ?_
              refine RD.gskip rfl rfl rfl rfl rfl ?_
              refine RD.gskip rfl rfl rfl rfl rfl ?_
              refine RD.p rfl rfl rfl rfl (fun w' => O.pickt rfl rfl) ?_
              refine RD.nil ?_
              refine KQ.then_k ?_
              exact fun a ha => ⟨true, ha.less (less_cons rfl (less_cons rfl (less_cons rfl (less_cons rfl (less_cons rfl (less_cons rfl (less_cons rfl (less_cons rfl (less_cons rfl (less_cons rfl (less_cons rfl (less_cons rfl (less_cons rfl (less_cons rfl less_nil)))))))))))))), hM, hF⟩
            · rw [if_neg (ne_true hc)] at hF
              refine RD.gq rfl rfl rfl rfl rfl rfl (fun w' hf => O.loadN (cs := [.int .u8 y424.1.f_TOS, .int .u16 y424.1.f_Total, .int .u16 y424.1.f_ID, .bool y424.1.f_DF, .bool y424.1.f_MF, .int .u16 y424.1.f_Frag, .int .u8 y424.1.f_TTL, .int .u8 y424.1.f_Proto, .int .u8 (List.getD y424.1.f_Src 0 0), .int .u8 (List.getD y424.1.f_Src 1 0), .int .u8 (List.getD y424.1.f_Src 2 0), .int .u8 (List.getD y424.1.f_Src 3 0), .int .u8 (List.getD y424.1.f_Dst 0 0), .int .u8 (List.getD y424.1.f_Dst 1 0), .int .u8 (List.getD y424.1.f_Dst 2 0), .int .u8 (List.getD y424.1.f_Dst 3 0), .slice A428 (y424.1.f_Options).length c429]) ag39 rfl (Cs.addsN [] ((hM.bx (i := 4) rfl).fut hf) rfl)) ?_
              refine RD.gq rfl rfl rfl rfl rfl rfl (fun w' hf => O.loadN (cs := [.int .u8 y16.1.f_TOS, .int .u16 y16.1.f_Total, .int .u16 y16.1.f_ID, .bool y16.1.f_DF, .bool y16.1.f_MF, .int .u16 y16.1.f_Frag, .int .u8 y16.1.f_TTL, .int .u8 y16.1.f_Proto, .string y16.1.f_Src, .string y16.1.f_Dst, .string y16.1.f_Options]) ag41 rfl (Cs.addsN [] ((hM.bx (i := 1) rfl).fut hf) rfl)) ?_
              refine obindE hF fun y449 hx450 hF => ?_
              refine RD.mcall rfl rfl ⟨rfl, rfl⟩ Try.func11 bd11 rfl rfl (c_docs_Ip _ y424.1 _ _ (hM.rd (i := 3) rfl) _ hx450) fun v w451 hv => ?_
              obtain ⟨rfl, hN452⟩ := hv
              refine ⟨fun _ => hN452.fut, ?_⟩
              replace hM := hM.call0 hN452
              refine obindE hF fun y453 hx454 hF => ?_
              refine RD.mcall rfl rfl ⟨rfl, rfl⟩ Try.func26 bd26 rfl rfl (c_law05_pad _ y16.1 _ hx454) fun v w455 hv => ?_
              obtain ⟨rfl, hN456⟩ := hv
              refine ⟨fun _ => hN456.fut, ?_⟩
              replace hM := hM.call0 hN456
              refine RD.gp rfl rfl rfl rfl rfl rfl (fun w' => O.stne (cs := [.int .u8 y449.f_TOS, .int .u16 y449.f_Total, .int .u16 y449.f_ID, .bool y449.f_DF, .bool y449.f_MF, .int .u16 y449.f_Frag, .int .u8 y449.f_TTL, .int .u8 y449.f_Proto, .string y449.f_Src, .string y449.f_Dst, .string y449.f_Options]) (cs' := [.int .u8 y453.f_TOS, .int .u16 y453.f_Total, .int .u16 y453.f_ID, .bool y453.f_DF, .bool y453.f_MF, .int .u16 y453.f_Frag, .int .u8 y453.f_TTL, .int .u8 y453.f_Proto, .string y453.f_Src, .string y453.f_Dst, .string y453.f_Options]) (by kernel_rfl) rfl rfl (Q41t y449 y453 _ rfl rfl)) ?_
              refine RD.p rfl rfl rfl rfl (fun w' => O.pickf rfl rfl) ?_
              refine RD.p rfl rfl rfl rfl (fun w' => O.move rfl) ?_
              refine RD.bcase (t := 79) rfl (fun hc => ?_) (fun hc => ?_)
              · rw [if_pos hc] at hF
                refine RD.gskip rfl rfl rfl rfl rfl ?_
                refine RD.gskip rfl rfl rfl rfl rfl ?_
                refine RD.gskip rfl rfl rfl rfl rfl ?_
                refine RD.p rfl rfl rfl rfl (fun w' => O.pickt rfl rfl) ?_
                refine RD.p rfl rfl rfl rfl (fun w' => O.move rfl) ?_
                refine RD.gskip rfl rfl rfl rfl rfl ?_
                refine RD.gskip rfl rfl rfl rfl rfl ?_
                refine RD.gskip rfl rfl rfl rfl rfl ?_
                refine RD.gskip rfl rfl rfl rfl rfl ?_
                refine RD.p rfl rfl rfl rfl (fun w' => O.pickt rfl rfl) ?_
                refine RD.p rfl rfl rfl rfl (fun w' => O.move rfl) ?_
                refine RD.gskip rfl rfl rfl rfl rfl ?_
                refine RD.gskip rfl rfl rfl rfl rfl ?_
                refine RD.gskip rfl rfl rfl rfl rfl ?_
                refine RD.p rfl rfl rfl rfl (fun w' => O.pickt rfl rfl) ?_
                refine RD.p rfl rfl rfl rfl (fun w' => O.move rfl) ?_
                refine RD.gskip rfl rfl rfl rfl rfl ?_
                refine RD.gskip rfl rfl rfl rfl rfl ?_
                refine RD.gskip rfl rfl rfl rfl rfl ?_
                refine RD.gskip rfl rfl rfl rfl rfl ?_
                refine RD.p rfl rfl rfl rfl (fun w' => O.pickt rfl rfl) ?_
                refine RD.nil ?_
                refine KQ.then_k ?_
                exact fun a ha => ⟨true, ha.less (less_cons rfl (less_cons rfl (less_cons rfl (less_cons rfl (less_cons rfl (less_cons rfl (less_cons rfl (less_cons rfl (less_cons rfl (less_cons rfl (less_cons rfl (less_cons rfl (less_cons rfl (less_cons rfl less_nil)))))))))))))), hM, hF⟩
              · rw [if_neg (ne_true hc)] at hF
                refine RD.gp rfl rfl rfl rfl rfl rfl (fun w' => O.move rfl) ?_
                refine RD.gp rfl rfl rfl rfl rfl rfl (fun w' => O.move rfl) ?_
                refine RD.gp rfl rfl rfl rfl rfl rfl (fun w' => O.neq rfl rfl) ?_
                refine RD.p rfl rfl rfl rfl (fun w' => O.pickf rfl rfl) ?_
                refine RD.p rfl rfl rfl rfl (fun w' => O.move rfl) ?_
                refine RD.bcase (t := 84) rfl (fun hc => ?_) (fun hc => ?_)
                · rw [if_pos hc] at hF
                  refine RD.gskip rfl rfl rfl rfl rfl ?_
                  refine RD.gskip rfl rfl rfl rfl rfl ?_
                  refine RD.gskip rfl rfl rfl rfl rfl ?_
                  refine RD.gskip rfl rfl rfl rfl rfl ?_
                  refine RD.p rfl rfl rfl rfl (fun w' => O.pickt rfl rfl) ?_
                  refine RD.p rfl rfl rfl rfl (fun w' => O.move rfl) ?_
                  refine RD.gskip rfl rfl rfl rfl rfl ?_
                  refine RD.gskip rfl rfl rfl rfl rfl ?_
                  refine RD.gskip rfl rfl rfl rfl rfl ?_
                  refine RD.p rfl rfl rfl rfl (fun w' => O.pickt rfl rfl) ?_
                  refine RD.p rfl rfl rfl rfl (fun w' => O.move rfl) ?_
                  refine RD.gskip rfl rfl rfl rfl rfl ?_
                  refine RD.gskip rfl rfl rfl rfl rfl ?_
                  refine RD.gskip rfl rfl rfl rfl rfl ?_
                  refine RD.gskip rfl rfl rfl rfl rfl ?_
                  refine RD.p rfl rfl rfl rfl (fun w' => O.pickt rfl rfl) ?_
                  refine RD.nil ?_
                  refine KQ.then_k ?_
                  exact fun a ha => ⟨true, ha.less (less_cons rfl (less_cons rfl (less_cons rfl (less_cons rfl (less_cons rfl (less_cons rfl (less_cons rfl (less_cons rfl (less_cons rfl (less_cons rfl (less_cons rfl (less_cons rfl (less_cons rfl (less_cons rfl less_nil)))))))))))))), hM, hF⟩
                · rw [if_neg (ne_true hc)] at hF
                  refine RD.gp rfl rfl rfl rfl rfl rfl (fun w' => O.move rfl) ?_
                  refine RD.gp rfl rfl rfl rfl rfl rfl (fun w' => O.move rfl) ?_
                  refine obindE hF fun y457 hx458 hF => ?_
                  refine RD.mcall rfl rfl ⟨rfl, rfl⟩ Try.func14 bd14 rfl rfl (c_ref01_Same _ _ _ y435.1 (hM.rd (i := 5) rfl) _ _ y24.1 (hM.inp hr31 Off.nil) _ hx458) fun v w459 hv => ?_
                  obtain ⟨rfl, hN460⟩ := hv
                  refine ⟨fun _ => hN460.fut, ?_⟩
                  replace hM := hM.call0 hN460
                  refine RD.gp rfl rfl rfl rfl rfl rfl (fun w' => O.not rfl) ?_
                  refine RD.p rfl rfl rfl rfl (fun w' => O.pickf rfl rfl) ?_
                  refine RD.p rfl rfl rfl rfl (fun w' => O.move rfl) ?_
                  refine RD.bcase (t := 90) rfl (fun hc => ?_) (fun hc => ?_)
                  · rw [if_pos hc] at hF
                    refine RD.gskip rfl rfl rfl rfl rfl ?_
                    refine RD.gskip rfl rfl rfl rfl rfl ?_
                    refine RD.gskip rfl rfl rfl rfl rfl ?_
                    refine RD.p rfl rfl rfl rfl (fun w' => O.pickt rfl rfl) ?_
                    refine RD.p rfl rfl rfl rfl (fun w' => O.move rfl) ?_
                    refine RD.gskip rfl rfl rfl rfl rfl ?_
                    refine RD.gskip rfl rfl rfl rfl rfl ?_
                    refine RD.gskip rfl rfl rfl rfl rfl ?_
                    refine RD.gskip rfl rfl rfl rfl rfl ?_
                    refine RD.p rfl rfl rfl rfl (fun w' => O.pickt rfl rfl) ?_
                    refine RD.nil ?_
                    refine KQ.then_k ?_
                    exact fun a ha => ⟨true, ha.less (less_cons rfl (less_cons rfl (less_cons rfl (less_cons rfl (less_cons rfl (less_cons rfl (less_cons rfl (less_cons rfl (less_cons rfl (less_cons rfl (less_cons rfl (less_cons rfl (less_cons rfl (less_cons rfl less_nil)))))))))))))), hM, hF⟩
                  · rw [if_neg (ne_true hc)] at hF
                    refine RD.gp rfl rfl rfl rfl rfl rfl (fun w' => O.move rfl) ?_
                    refine RD.gp rfl rfl rfl rfl rfl rfl (fun w' => O.move rfl) ?_
                    refine RD.gp rfl rfl rfl rfl rfl rfl (fun w' => O.neq rfl rfl) ?_
                    refine RD.p rfl rfl rfl rfl (fun w' => O.pickf rfl rfl) ?_
                    refine RD.p rfl rfl rfl rfl (fun w' => O.move rfl) ?_
                    refine RD.bcase (t := 95) rfl (fun hc => ?_) (fun hc => ?_)
                    · rw [if_pos hc] at hF
                      refine RD.gskip rfl rfl rfl rfl rfl ?_
                      refine RD.gskip rfl rfl rfl rfl rfl ?_
                      refine RD.gskip rfl rfl rfl rfl rfl ?_
                      refine RD.gskip rfl rfl rfl rfl rfl ?_
                      refine RD.p rfl rfl rfl rfl (fun w' => O.pickt rfl rfl) ?_
                      refine RD.nil ?_
                      refine KQ.then_k ?_
                      exact fun a ha => ⟨true, ha.less (less_cons rfl (less_cons rfl (less_cons rfl (less_cons rfl (less_cons rfl (less_cons rfl (less_cons rfl (less_cons rfl (less_cons rfl (less_cons rfl (less_cons rfl (less_cons rfl (less_cons rfl (less_cons rfl less_nil)))))))))))))), hM, hF⟩
                    · rw [if_neg (ne_true hc)] at hF
                      refine RD.gp rfl rfl rfl rfl rfl rfl (fun w' => O.move rfl) ?_
                      refine RD.gp rfl rfl rfl rfl rfl rfl (fun w' => O.move rfl) ?_
                      refine obindE hF fun y461 hx462 hF => ?_
                      refine RD.mcall rfl rfl ⟨rfl, rfl⟩ Try.func14 bd14 rfl rfl (c_ref01_Same _ _ _ y442.1 (hM.rd (i := 6) rfl) _ _ y32.1 (hM.rd (i := 2) rfl) _ hx462) fun v w463 hv => ?_
                      obtain ⟨rfl, hN464⟩ := hv
                      refine ⟨fun _ => hN464.fut, ?_⟩
                      replace hM := hM.call0 hN464
                      refine RD.gp rfl rfl rfl rfl rfl rfl (fun w' => O.not rfl) ?_
                      refine RD.p rfl rfl rfl rfl (fun w' => O.pickf rfl rfl) ?_
                      refine RD.nil ?_
                      refine KQ.then_k ?_
                      exact fun a ha => ⟨(!y461), ha.less (less_cons rfl (less_cons rfl (less_cons rfl (less_cons rfl (less_cons rfl (less_cons rfl (less_cons rfl (less_cons rfl (less_cons rfl (less_cons rfl (less_cons rfl (less_cons rfl (less_cons rfl (less_cons rfl less_nil)))))))))))))), hM, hF⟩
        · rintro a w473 ⟨t472, ha, hM, hF⟩
          refine KC.app ha ?_
          clear ha
          unfold F_law05_IpParses_j1 at hF
          refine KC.cond rfl (fun hc => ?_) (fun hc => ?_)
          · rw [if_pos hc] at hF
            refine KC.seq ?_
            refine KC.region ?_
            refine RL.val (O.assign rfl) rfl ?_
            refine RL.nil ?_
            refine KQ.then_n ?_
            refine KC.ret ?_
            refine KQ.then_r ?_
            refine KQ.blk_r ?_
            refine KQ.then_r ?_
            refine KQ.then_r ?_
            refine KQ.blk_r ?_
            refine KQ.then_r ?_
            have hE := Option.some.inj hF
            clear hF
            subst hE
            replace hM := hM.pick [] rfl (by decide)
            refine KQ.rets Try.results6 (RVs.cons (RV.tm rfl) RVs.nil) ?_
            exact ⟨_, rfl, rfl, hM⟩
          · rw [if_neg (ne_true hc)] at hF
            refine KC.skip ?_
            refine KQ.then_n ?_
            refine KC.seq ?_
            refine KC.seq ?_
            refine KC.region ?_
            refine RL.val (O.assign rfl) rfl ?_
            refine RL.nil ?_
            refine KQ.then_n ?_
            refine KC.block ?_
            refine KC.loop (fun k514 a w512 => ∃ (A506 : Option Addr) (c507 : Nat) (h508 : List Int) (q511 : Int), Kn 145 [(0, .slice A2 (b1).length c3), (3, .slice A13 (y9).length c14), (4, .pointer (some ⟨g20, 0, none⟩)), (5, .int .i64 y16.2.1), (6, .int .i64 y16.2.2), (7, .slice A28 (y24.1).length c29), (8, .int .i64 y24.2), (9, .slice A36 (y32.1).length c37), (10, .int .i64 y32.2), (11, .int .i64 t420), (12, .pointer (some ⟨g431, 0, none⟩)), (15, .slice A439 (y435.1).length c440), (17, .slice A446 (y442.1).length c447), (19, .int .i64 q511)] a ∧ Mem w [] w512 [.row A13 c14 5 1 (y9).length ((y9).flatMap (eI .u8)), .box g20 41 [.int .u8 y16.1.f_TOS, .int .u16 y16.1.f_Total, .int .u16 y16.1.f_ID, .bool y16.1.f_DF, .bool y16.1.f_MF, .int .u16 y16.1.f_Frag, .int .u8 y16.1.f_TTL, .int .u8 y16.1.f_Proto, .string y16.1.f_Src, .string y16.1.f_Dst, .string y16.1.f_Options], .row A36 c37 5 1 (y32.1).length ((y32.1).flatMap (eI .u8)), .row A506 c507 5 1 (h508).length ((h508).flatMap (eI .u8)), .box g431 39 [.int .u8 y424.1.f_TOS, .int .u16 y424.1.f_Total, .int .u16 y424.1.f_ID, .bool y424.1.f_DF, .bool y424.1.f_MF, .int .u16 y424.1.f_Frag, .int .u8 y424.1.f_TTL, .int .u8 y424.1.f_Proto, .int .u8 (List.getD y424.1.f_Src 0 0), .int .u8 (List.getD y424.1.f_Src 1 0), .int .u8 (List.getD y424.1.f_Src 2 0), .int .u8 (List.getD y424.1.f_Src 3 0), .int .u8 (List.getD y424.1.f_Dst 0 0), .int .u8 (List.getD y424.1.f_Dst 1 0), .int .u8 (List.getD y424.1.f_Dst 2 0), .int .u8 (List.getD y424.1.f_Dst 3 0), .slice A506 (h508).length c507], .row A439 c440 5 1 (y435.1).length ((y435.1).flatMap (eI .u8)), .row A446 c447 5 1 (y442.1).length ((y442.1).flatMap (eI .u8))] ∧ F_law05_IpParses_L2 t420 (F_law05_IpParses_L1 b1 y9 y16 y24 y32 k423) y435 y442 k514 h508 q511 = some r) ?_ ?_
            · exact fun a ha => ⟨fuel0, A428, c429, y424.1.f_Options, 0, ha.less (less_cons rfl (less_cons rfl (less_cons rfl (less_cons rfl (less_cons rfl (less_cons rfl (less_cons rfl (less_cons rfl (less_cons rfl (less_cons rfl (less_cons rfl (less_cons rfl (less_cons rfl (less_cons rfl less_nil)))))))))))))), hM, hF⟩
            · rintro k514 a w512 ⟨A506, c507, h508, q511, ha, hM, hF⟩
              refine KC.app ha ?_
              clear ha
              cases k514 with
              | zero => exact (none_some hF).elim
              | succ k514 =>
              have hF : F_law05_IpParses_l2 (F_law05_IpParses_L2 t420 (F_law05_IpParses_L1 b1 y9 y16 y24 y32 k423) y435 y442 k514) t420 (F_law05_IpParses_L1 b1 y9 y16 y24 y32 k423) y435 y442 h508 q511 = some r := hF
              unfold F_law05_IpParses_l2 at hF
              refine KC.seq ?_
              refine KC.seq ?_
              refine KC.region ?_
              refine RL.val (O.move rfl) rfl ?_
              refine RL.val (O.fldA fl39_10 (by decide) rfl) rfl ?_
              refine RL.val (O.load sc22 rfl (Cs.adds [16] ((hM.bx (i := 4) rfl)) rfl)) rfl ?_
              refine RL.val (O.len sl22 rfl) rfl ?_
              refine RL.val (O.lss rfl rfl) rfl ?_
              refine RL.nil ?_
              refine KQ.then_n ?_
              refine KC.cond rfl (fun hc => ?_) (fun hc => ?_)
              · rw [if_pos hc] at hF
                refine KC.skip ?_
                refine KQ.then_n ?_
                refine KC.seq ?_
                refine KC.block ?_
                refine KC.region ?_
                refine RL.val (O.fldA fl39_10 (by decide) rfl) rfl ?_
                refine RL.val (O.load sc22 rfl (Cs.adds [16] ((hM.bx (i := 4) rfl)) rfl)) rfl ?_
                refine RL.val (O.move rfl) rfl ?_
                refine obindE hF fun xv517 hx516 hF => ?_
                have hA515 := Rd.atN (f := (eI .u8)) (s := 1) (fun _ => rfl) (by decide) (hM.rd (i := 3) rfl) hx516
                refine RL.val (O.idxA sl22 (hA515) rfl rfl) rfl ?_
                refine RL.val (O.load sc5 rfl (hA515).cells.at0) rfl ?_
                refine RL.val (O.add rfl rfl) rfl ?_
                refine obindE hF fun xv520 hx519 hF => ?_
                have hA518 := Rd.atN (f := (eI .u8)) (s := 1) (fun _ => rfl) (by decide) (hM.rd (i := 3) rfl) hx519
                refine RL.val (O.idxA sl22 (hA518) rfl rfl) rfl ?_
                refine RL.effs (E.stR (enc := (eI .u8)) (j := 3) (off := 0) (vs := [.int .u8 (IntKind.u8.wrap (xv517 + 1))]) (x' := (IntKind.u8.wrap (xv517 + 1))) hM rfl (fun _ => rfl) hx519 sz5 rfl (addsR_eq [] rfl) rfl rfl (One.all rfl) rfl rfl) fun w521 hM1 => ?_
                clear hM
                obtain ⟨hM, hn522⟩ := hM1
                refine RL.reslot (t := 109) rfl hn522 ?_
                replace hM := hM.rebox (i := 4) (cs' := [.int .u8 y424.1.f_TOS, .int .u16 y424.1.f_Total, .int .u16 y424.1.f_ID, .bool y424.1.f_DF, .bool y424.1.f_MF, .int .u16 y424.1.f_Frag, .int .u8 y424.1.f_TTL, .int .u8 y424.1.f_Proto, .int .u8 (List.getD y424.1.f_Src 0 0), .int .u8 (List.getD y424.1.f_Src 1 0), .int .u8 (List.getD y424.1.f_Src 2 0), .int .u8 (List.getD y424.1.f_Src 3 0), .int .u8 (List.getD y424.1.f_Dst 0 0), .int .u8 (List.getD y424.1.f_Dst 1 0), .int .u8 (List.getD y424.1.f_Dst 2 0), .int .u8 (List.getD y424.1.f_Dst 3 0), .slice A506 ((h508.set (q511 : Int).toNat (IntKind.u8.wrap (xv517 + 1)))).length c507]) rfl (by rw [← hn522])
                refine RL.nil ?_
                refine KQ.blk_n ?_
                refine KQ.then_n ?_
                refine KC.region ?_
                refine RL.val (O.move rfl) rfl ?_
                refine RL.val (O.add rfl rfl) rfl ?_
                refine RL.val (O.assign rfl) rfl ?_
                refine RL.nil ?_
                refine KQ.then_k ?_
                exact fun a ha => ⟨k514, Nat.lt_succ_self k514, A506, c507, (h508.set (q511 : Int).toNat (IntKind.u8.wrap (xv517 + 1))), (IntKind.i64.wrap (q511 + 1)), ha.less (less_cons rfl (less_cons rfl (less_cons rfl (less_cons rfl (less_cons rfl (less_cons rfl (less_cons rfl (less_cons rfl (less_cons rfl (less_cons rfl (less_cons rfl (less_cons rfl (less_cons rfl (less_cons rfl less_nil)))))))))))))), hM, hF⟩
              · rw [if_neg (ne_true hc)] at hF
                refine KC.exit ?_
                refine KQ.then_x ?_
                refine KQ.then_x ?_
                refine KQ.blk_x ?_
                refine KQ.then_n ?_
                replace hM := hM.pick [0, 1, 2, 5, 6] rfl (by decide)
                refine KC.seq ?_
                refine KC.seq ?_
                refine KC.region ?_
                refine RL.val (O.assign rfl) rfl ?_
                refine RL.nil ?_
                refine KQ.then_n ?_
                refine KC.block ?_
                refine KC.loop (fun k559 a w557 => ∃ (A552 : Option Addr) (c553 : Nat) (xv554 : List Int) (q556 : Int), Kn 145 [(0, .slice A2 (b1).length c3), (3, .slice A13 (y9).length c14), (4, .pointer (some ⟨g20, 0, none⟩)), (5, .int .i64 y16.2.1), (6, .int .i64 y16.2.2), (7, .slice A28 (y24.1).length c29), (8, .int .i64 y24.2), (9, .slice A36 (y32.1).length c37), (10, .int .i64 y32.2), (11, .int .i64 t420), (15, .slice A552 (xv554).length c553), (17, .slice A446 (y442.1).length c447), (20, .int .i64 q556)] a ∧ Mem w [] w557 [.row A13 c14 5 1 (y9).length ((y9).flatMap (eI .u8)), .box g20 41 [.int .u8 y16.1.f_TOS, .int .u16 y16.1.f_Total, .int .u16 y16.1.f_ID, .bool y16.1.f_DF, .bool y16.1.f_MF, .int .u16 y16.1.f_Frag, .int .u8 y16.1.f_TTL, .int .u8 y16.1.f_Proto, .string y16.1.f_Src, .string y16.1.f_Dst, .string y16.1.f_Options], .row A36 c37 5 1 (y32.1).length ((y32.1).flatMap (eI .u8)), .row A552 c553 5 1 (xv554).length ((xv554).flatMap (eI .u8)), .row A446 c447 5 1 (y442.1).length ((y442.1).flatMap (eI .u8))] ∧ F_law05_IpParses_L3 t420 (F_law05_IpParses_L1 b1 y9 y16 y24 y32 k423) y442 k559 xv554 q556 = some r) ?_ ?_
                · exact fun a ha => ⟨fuel0, A439, c440, y435.1, 0, ha.less (less_cons rfl (less_cons rfl (less_cons rfl (less_cons rfl (less_cons rfl (less_cons rfl (less_cons rfl (less_cons rfl (less_cons rfl (less_cons rfl (less_cons rfl (less_cons rfl (less_cons rfl less_nil))))))))))))), hM, hF⟩
                · rintro k559 a w557 ⟨A552, c553, xv554, q556, ha, hM, hF⟩
                  refine KC.app ha ?_
                  clear ha
                  cases k559 with
                  | zero => exact (none_some hF).elim
                  | succ k559 =>
                  have hF : F_law05_IpParses_l3 (F_law05_IpParses_L3 t420 (F_law05_IpParses_L1 b1 y9 y16 y24 y32 k423) y442 k559) t420 (F_law05_IpParses_L1 b1 y9 y16 y24 y32 k423) y442 xv554 q556 = some r := hF
                  unfold F_law05_IpParses_l3 at hF
                  refine KC.seq ?_
                  refine KC.seq ?_
                  refine KC.region ?_
                  refine RL.val (O.move rfl) rfl ?_
                  refine RL.val (O.move rfl) rfl ?_
                  refine RL.val (O.len sl22 rfl) rfl ?_
                  refine RL.val (O.lss rfl rfl) rfl ?_
                  refine RL.nil ?_
                  refine KQ.then_n ?_
                  refine KC.cond rfl (fun hc => ?_) (fun hc => ?_)
                  · rw [if_pos hc] at hF
                    refine KC.skip ?_
                    refine KQ.then_n ?_
                    refine KC.seq ?_
                    refine KC.block ?_
                    refine KC.region ?_
                    refine RL.val (O.move rfl) rfl ?_
                    refine RL.val (O.move rfl) rfl ?_
                    refine obindE hF fun xv562 hx561 hF => ?_
                    have hA560 := Rd.atN (f := (eI .u8)) (s := 1) (fun _ => rfl) (by decide) (hM.rd (i := 3) rfl) hx561
                    refine RL.val (O.idxA sl22 (hA560) rfl rfl) rfl ?_
                    refine RL.val (O.load sc5 rfl (hA560).cells.at0) rfl ?_
                    refine RL.val (O.add rfl rfl) rfl ?_
                    refine obindE hF fun xv565 hx564 hF => ?_
                    have hA563 := Rd.atN (f := (eI .u8)) (s := 1) (fun _ => rfl) (by decide) (hM.rd (i := 3) rfl) hx564
                    refine RL.val (O.idxA sl22 (hA563) rfl rfl) rfl ?_
                    refine RL.effs (E.stR (enc := (eI .u8)) (j := 3) (off := 0) (vs := [.int .u8 (IntKind.u8.wrap (xv562 + 1))]) (x' := (IntKind.u8.wrap (xv562 + 1))) hM rfl (fun _ => rfl) hx564 sz5 rfl (addsR_eq [] rfl) rfl rfl (One.all rfl) rfl rfl) fun w566 hM1 => ?_
                    clear hM
                    obtain ⟨hM, hn567⟩ := hM1
                    refine RL.reslot (t := 15) rfl hn567 ?_
                    refine RL.reslot (t := 121) rfl hn567 ?_
                    refine RL.nil ?_
                    refine KQ.blk_n ?_
                    refine KQ.then_n ?_
                    refine KC.region ?_
                    refine RL.val (O.move rfl) rfl ?_
                    refine RL.val (O.add rfl rfl) rfl ?_
                    refine RL.val (O.assign rfl) rfl ?_
                    refine RL.nil ?_
                    refine KQ.then_k ?_
                    exact fun a ha => ⟨k559, Nat.lt_succ_self k559, A552, c553, (xv554.set (q556 : Int).toNat (IntKind.u8.wrap (xv562 + 1))), (IntKind.i64.wrap (q556 + 1)), ha.less (less_cons rfl (less_cons rfl (less_cons rfl (less_cons rfl (less_cons rfl (less_cons rfl (less_cons rfl (less_cons rfl (less_cons rfl (less_cons rfl (less_cons rfl (less_cons rfl (less_cons rfl less_nil))))))))))))), hM, hF⟩
                  · rw [if_neg (ne_true hc)] at hF
                    refine KC.exit ?_
                    refine KQ.then_x ?_
                    refine KQ.then_x ?_
                    refine KQ.blk_x ?_
                    refine KQ.then_n ?_
                    replace hM := hM.pick [0, 1, 2, 4] rfl (by decide)
                    refine KC.seq ?_
                    refine KC.region ?_
                    refine RL.val (O.assign rfl) rfl ?_
                    refine RL.nil ?_
                    refine KQ.then_n ?_
                    refine KC.block ?_
                    refine KC.loop (fun k602 a w600 => ∃ (A596 : Option Addr) (c597 : Nat) (y598 : List Int) (q599 : Int), Kn 145 [(0, .slice A2 (b1).length c3), (3, .slice A13 (y9).length c14), (4, .pointer (some ⟨g20, 0, none⟩)), (5, .int .i64 y16.2.1), (6, .int .i64 y16.2.2), (7, .slice A28 (y24.1).length c29), (8, .int .i64 y24.2), (9, .slice A36 (y32.1).length c37), (10, .int .i64 y32.2), (11, .int .i64 t420), (17, .slice A596 (y598).length c597), (21, .int .i64 q599)] a ∧ Mem w [] w600 [.row A13 c14 5 1 (y9).length ((y9).flatMap (eI .u8)), .box g20 41 [.int .u8 y16.1.f_TOS, .int .u16 y16.1.f_Total, .int .u16 y16.1.f_ID, .bool y16.1.f_DF, .bool y16.1.f_MF, .int .u16 y16.1.f_Frag, .int .u8 y16.1.f_TTL, .int .u8 y16.1.f_Proto, .string y16.1.f_Src, .string y16.1.f_Dst, .string y16.1.f_Options], .row A36 c37 5 1 (y32.1).length ((y32.1).flatMap (eI .u8)), .row A596 c597 5 1 (y598).length ((y598).flatMap (eI .u8))] ∧ F_law05_IpParses_L4 t420 (F_law05_IpParses_L1 b1 y9 y16 y24 y32 k423) k602 y598 q599 = some r) ?_ ?_
                    · exact fun a ha => ⟨fuel0, A446, c447, y442.1, 0, ha.less (less_cons rfl (less_cons rfl (less_cons rfl (less_cons rfl (less_cons rfl (less_cons rfl (less_cons rfl (less_cons rfl (less_cons rfl (less_cons rfl (less_cons rfl (less_cons rfl less_nil)))))))))))), hM, hF⟩
                    · rintro k602 a w600 ⟨A596, c597, y598, q599, ha, hM, hF⟩
                      refine KC.app ha ?_
                      clear ha
                      cases k602 with
                      | zero => exact (none_some hF).elim
                      | succ k602 =>
                      have hF : F_law05_IpParses_l4 (F_law05_IpParses_L4 t420 (F_law05_IpParses_L1 b1 y9 y16 y24 y32 k423) k602) t420 (F_law05_IpParses_L1 b1 y9 y16 y24 y32 k423) y598 q599 = some r := hF
                      unfold F_law05_IpParses_l4 at hF
                      refine KC.seq ?_
                      refine KC.seq ?_
                      refine KC.region ?_
                      refine RL.val (O.move rfl) rfl ?_
                      refine RL.val (O.move rfl) rfl ?_
                      refine RL.val (O.len sl22 rfl) rfl ?_
                      refine RL.val (O.lss rfl rfl) rfl ?_
                      refine RL.nil ?_
                      refine KQ.then_n ?_
                      refine KC.cond rfl (fun hc => ?_) (fun hc => ?_)
                      · rw [if_pos hc] at hF
                        refine KC.skip ?_
                        refine KQ.then_n ?_
                        refine KC.seq ?_
                        refine KC.block ?_
                        refine KC.region ?_
                        refine RL.val (O.move rfl) rfl ?_
                        refine RL.val (O.move rfl) rfl ?_
                        refine obindE hF fun xv605 hx604 hF => ?_
                        have hA603 := Rd.atN (f := (eI .u8)) (s := 1) (fun _ => rfl) (by decide) (hM.rd (i := 3) rfl) hx604
                        refine RL.val (O.idxA sl22 (hA603) rfl rfl) rfl ?_
                        refine RL.val (O.load sc5 rfl (hA603).cells.at0) rfl ?_
                        refine RL.val (O.add rfl rfl) rfl ?_
                        refine obindE hF fun xv608 hx607 hF => ?_
                        have hA606 := Rd.atN (f := (eI .u8)) (s := 1) (fun _ => rfl) (by decide) (hM.rd (i := 3) rfl) hx607
                        refine RL.val (O.idxA sl22 (hA606) rfl rfl) rfl ?_
                        refine RL.effs (E.stR (enc := (eI .u8)) (j := 3) (off := 0) (vs := [.int .u8 (IntKind.u8.wrap (xv605 + 1))]) (x' := (IntKind.u8.wrap (xv605 + 1))) hM rfl (fun _ => rfl) hx607 sz5 rfl (addsR_eq [] rfl) rfl rfl (One.all rfl) rfl rfl) fun w609 hM1 => ?_
                        clear hM
                        obtain ⟨hM, hn610⟩ := hM1
                        refine RL.reslot (t := 17) rfl hn610 ?_
                        refine RL.reslot (t := 133) rfl hn610 ?_
                        refine RL.nil ?_
                        refine KQ.blk_n ?_
                        refine KQ.then_n ?_
                        refine KC.region ?_
                        refine RL.val (O.move rfl) rfl ?_
                        refine RL.val (O.add rfl rfl) rfl ?_
                        refine RL.val (O.assign rfl) rfl ?_
                        refine RL.nil ?_
                        refine KQ.then_k ?_
                        exact fun a ha => ⟨k602, Nat.lt_succ_self k602, A596, c597, (y598.set (q599 : Int).toNat (IntKind.u8.wrap (xv605 + 1))), (IntKind.i64.wrap (q599 + 1)), ha.less (less_cons rfl (less_cons rfl (less_cons rfl (less_cons rfl (less_cons rfl (less_cons rfl (less_cons rfl (less_cons rfl (less_cons rfl (less_cons rfl (less_cons rfl (less_cons rfl less_nil)))))))))))), hM, hF⟩
                      · rw [if_neg (ne_true hc)] at hF
                        refine KC.exit ?_
                        refine KQ.then_x ?_
                        refine KQ.then_x ?_
                        refine KQ.blk_x ?_
                        refine KQ.blk_n ?_
                        refine KQ.then_n ?_
                        replace hM := hM.pick [0, 1, 2] rfl (by decide)
                        refine KC.region ?_
                        refine RL.val (O.move rfl) rfl ?_
                        refine RL.val (O.add rfl rfl) rfl ?_
                        refine RL.val (O.assign rfl) rfl ?_
                        refine RL.nil ?_
                        refine KQ.then_k ?_
                        exact fun a ha => ⟨k423, Nat.lt_succ_self k423, (IntKind.i64.wrap (t420 + 1)), ha.less (less_cons rfl (less_cons rfl (less_cons rfl (less_cons rfl (less_cons rfl (less_cons rfl (less_cons rfl (less_cons rfl (less_cons rfl (less_cons rfl less_nil)))))))))), hM, hF⟩
      · rw [if_neg (ne_true hc)] at hF
        refine KC.exit ?_
        refine KQ.then_x ?_
        refine KQ.then_x ?_
        refine KQ.blk_x ?_
        refine KQ.then_n ?_
        replace hM := hM.pick [0] rfl (by decide)
        refine KC.cut (fun a w620 => ∃ (t619 : Bool), Kn 145 [(2, .bool t619)] a ∧ Mem w [] w620 [] ∧ F_law05_IpParses_j2 t619 = some r) ?_ ?_
        · refine KC.region ?_
          refine RL.val (O.move rfl) rfl ?_
          refine RL.val (O.move rfl) rfl ?_
          refine obindE hF fun y611 hx612 hF => ?_
          refine RL.call Try.func14 bd14 rfl rfl (c_ref01_Same _ _ _ b1 (hM.inp hr4 Off.nil) _ _ y9 (hM.rd (i := 0) rfl) _ hx612) fun v w613 hv => ?_
          obtain ⟨rfl, hN614⟩ := hv
          replace hM := hM.call0 hN614
          refine RL.val (O.move rfl) rfl ?_
          refine RL.bcase (t := 142) rfl (fun hc => ?_) (fun hc => ?_)
          · rw [if_pos hc] at hF
            refine obindE hF fun y615 hx616 hF => ?_
            refine RL.gcall rfl rfl Try.func8 bd8 rfl rfl (c_law05_works _ _ hx616) fun v w617 hv => ?_
            obtain ⟨rfl, hN618⟩ := hv
            replace hM := hM.call0 hN618
            refine RL.val (O.pickt rfl rfl) rfl ?_
            refine RL.val (O.assign rfl) rfl ?_
            refine RL.nil ?_
            refine KQ.then_k ?_
            replace hM := hM.pick [] rfl (by decide)
            exact fun a ha => ⟨y615, ha.less (less_cons rfl less_nil), hM, hF⟩
          · rw [if_neg (ne_true hc)] at hF
            refine RL.gskip rfl rfl rfl rfl ?_
            refine RL.val (O.pickf rfl rfl) rfl ?_
            refine RL.val (O.assign rfl) rfl ?_
            refine RL.nil ?_
            refine KQ.then_k ?_
            replace hM := hM.pick [] rfl (by decide)
            exact fun a ha => ⟨false, ha.less (less_cons rfl less_nil), hM, hF⟩
        · rintro a w620 ⟨t619, ha, hM, hF⟩
          refine KC.app ha ?_
          clear ha
          unfold F_law05_IpParses_j2 at hF
          refine KC.ret ?_
          have hE := Option.some.inj hF
          clear hF
          subst hE
          refine KQ.rets Try.results6 (RVs.cons (RV.tm rfl) RVs.nil) ?_
          exact ⟨_, rfl, rfl, hM⟩
end Go.Proofs.Ytjfdfjmnajjjaaa
