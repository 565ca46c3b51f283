/- Printed by a program of this claim: each call returns what the plain function of its name gives. -/
import Derived.Test.YtjfdfjmnajjjaaaW1
import Derived.Test.YtjfdfjmnajjjaaaW5
import Derived.Test.YtjfdfjmnajjjaaaW6
import Derived.Test.YtjfdfjmnajjjaaaW7
import Derived.Test.YtjfdfjmnajjjaaaW8
import Derived.Test.YtjfdfjmnajjjaaaW9
import Derived.Test.YtjfdfjmnajjjaaaW12
import Derived.Test.YtjfdfjmnajjjaaaW15
import Derived.Test.YtjfdfjmnajjjaaaW16
set_option linter.unusedVariables false
namespace Go.Proofs.Ytjfdfjmnajjjaaa
open Go Go.Ox Go.RowKit
set_option maxRecDepth 100000 in
set_option maxHeartbeats 40000000 in
theorem c_law05_IpParses (w : World) (A2 : Option Addr) (c3 : Nat) (b1 : List Int) (hr4 : Rd w A2 c3 1 b1.length (b1.flatMap (eI .u8))) (r : Bool) (hF : F_law05_IpParses b1 = some r) :
    CallsR Try.prog 6 [.slice A2 (b1).length c3] w (fun v w' => v = .bool r ∧ Mem w [] w' []) := by
  refine calls_KC Try.func6 rfl Try.ntmps6 rfl ?_
  have hM := Mem.init w
  unfold F_law05_IpParses at hF
  refine KC.seqH fun Q5 hQ5 => ?_
  refine KC.region ?_
  refine RL.val (O.assign rfl) rfl ?_
  refine RL.nil ?_
  refine KQ.thn hQ5 ?_
  clear hQ5 Q5
  refine KC.seqH fun Q6 hQ6 => ?_
  refine KC.seqH fun Q7 hQ7 => ?_
  refine KC.region ?_
  refine RL.val (O.move rfl) rfl ?_
  refine RL.val (O.len sl22 rfl) rfl ?_
  refine RL.val (O.gtr rfl rfl) rfl ?_
  refine RL.nil ?_
  refine KQ.thn hQ7 ?_
  clear hQ7 Q7
  refine KC.cond rfl (fun hc => ?_) (fun hc => ?_)
  · rw [if_pos hc] at hF
    refine KC.seqH fun Q8 hQ8 => ?_
    refine KC.region ?_
    refine obindE hF fun y9 hx10 hF => ?_
    refine RL.call Try.func8 bd8 rfl rfl (c_law05_works _ _ hx10) fun v w11 hv => ?_
    obtain ⟨rfl, hN12⟩ := hv
    replace hM := hM.call0 hN12
    refine RL.val (O.assign rfl) rfl ?_
    refine RL.nil ?_
    refine KQ.thn hQ8 ?_
    clear hQ8 Q8
    refine KC.ret ?_
    refine KQ.thr hQ6 ?_
    clear hQ6 Q6
    have hE := Option.some.inj hF
    clear hF
    subst hE
    refine KQ.rets Try.results6 (RVs.cons (RV.tm rfl) RVs.nil) ?_
    exact ⟨_, rfl, rfl, hM⟩
  · rw [if_neg (ne_true hc)] at hF
    refine KC.skip ?_
    refine KQ.thn hQ6 ?_
    clear hQ6 Q6
    refine KC.seqH fun Q13 hQ13 => ?_
    refine KC.region ?_
    refine RL.val (O.move rfl) rfl ?_
    refine obindE hF fun y14 hx15 hF => ?_
    refine RL.call Try.func18 bd18 rfl rfl (c_ref01_Join _ none 0 [] Rd.nilr _ _ b1 (hM.inp hr4 Off.nil) _ hx15) fun v w16 hv => ?_
    obtain ⟨A18, c19, rfl, hN17⟩ := hv
    replace hM := hM.call hN17
    refine RL.val (O.assign rfl) rfl ?_
    refine RL.nil ?_
    refine KQ.thn hQ13 ?_
    clear hQ13 Q13
    refine KC.seqH fun Q21 hQ21 => ?_
    refine KC.region ?_
    refine RL.val (O.move rfl) rfl ?_
    refine obindE hF fun y22 hx23 hF => ?_
    refine RL.call Try.func22 bd22 rfl rfl (c_ref05_Parse _ _ _ b1 (hM.inp hr4 Off.nil) _ hx23) fun v w24 hv => ?_
    obtain ⟨rfl, hN25⟩ := hv
    replace hM := hM.call0 hN25
    refine RL.val (O.move rfl) rfl ?_
    refine RL.val (O.ext rfl rfl) rfl ?_
    refine RL.val (O.ext rfl rfl) rfl ?_
    refine RL.val (O.ext rfl rfl) rfl ?_
    refine RL.eff (E.alloc hM ze41) rfl fun v w27 hv => ?_
    clear hM
    obtain ⟨g26, rfl, hM, hf⟩ := hv
    refine RL.effs (E.stB (j := 1) (off := 0) (vs := [.int .u8 y22.1.f_TOS, .int .u16 y22.1.f_Total, .int .u16 y22.1.f_ID, .bool y22.1.f_DF, .bool y22.1.f_MF, .int .u16 y22.1.f_Frag, .int .u8 y22.1.f_TTL, .int .u8 y22.1.f_Proto, .string y22.1.f_Src, .string y22.1.f_Dst, .string y22.1.f_Options]) (cs' := [.int .u8 y22.1.f_TOS, .int .u16 y22.1.f_Total, .int .u16 y22.1.f_ID, .bool y22.1.f_DF, .bool y22.1.f_MF, .int .u16 y22.1.f_Frag, .int .u8 y22.1.f_TTL, .int .u8 y22.1.f_Proto, .string y22.1.f_Src, .string y22.1.f_Dst, .string y22.1.f_Options]) hM rfl sz41 rfl (adds_eq [] rfl) rfl rfl (One.all rfl) rfl rfl) fun w29 hM1 => ?_
    clear hM
    have hM := hM1
    clear hM1
    refine RL.val (O.assign rfl) rfl ?_
    refine RL.val (O.assign rfl) rfl ?_
    refine RL.nil ?_
    refine KQ.thn hQ21 ?_
    clear hQ21 Q21
    refine KC.seqH fun Q30 hQ30 => ?_
    refine KC.region ?_
    refine RL.val (O.move rfl) rfl ?_
    refine obindE hF fun y31 hx32 hF => ?_
    refine RL.call Try.func23 bd23 rfl rfl (c_ref05_Body _ _ _ b1 (hM.inp hr4 Off.nil) _ hx32) fun v w33 hv => ?_
    obtain ⟨A35, c36, rfl, ha37, hN34⟩ := hv
    replace hM := hM.call0 hN34
    have hr38 := ha37 _ hr4
    refine RL.val (O.move rfl) rfl ?_
    refine RL.val (O.ext rfl rfl) rfl ?_
    refine RL.val (O.ext rfl rfl) rfl ?_
    refine RL.val (O.assign rfl) rfl ?_
    refine RL.val (O.assign rfl) rfl ?_
    refine RL.nil ?_
    refine KQ.thn hQ30 ?_
    clear hQ30 Q30
    refine KC.seqH fun Q39 hQ39 => ?_
    refine KC.region ?_
    refine RL.val (O.move rfl) rfl ?_
    refine obindE hF fun y40 hx41 hF => ?_
    refine RL.call Try.func24 bd24 rfl rfl (c_ref05_Hop _ _ _ b1 (hM.inp hr4 Off.nil) _ hx41) fun v w42 hv => ?_
    obtain ⟨A44, c45, rfl, hN43⟩ := hv
    replace hM := hM.call hN43
    refine RL.val (O.move rfl) rfl ?_
    refine RL.val (O.ext rfl rfl) rfl ?_
    refine RL.val (O.ext rfl rfl) rfl ?_
    refine RL.val (O.assign rfl) rfl ?_
    refine RL.val (O.assign rfl) rfl ?_
    refine RL.nil ?_
    refine KQ.thn hQ39 ?_
    clear hQ39 Q39
    refine KC.seqH fun Q47 hQ47 => ?_
    refine KC.seqH fun Q48 hQ48 => ?_
    refine KC.region ?_
    refine RL.val (O.assign rfl) rfl ?_
    refine RL.nil ?_
    refine KQ.thn hQ48 ?_
    clear hQ48 Q48
    refine KC.block ?_
    refine KC.loop (fun k513 a w511 => ∃ (t510 : Int), Kn 145 [(0, .slice A2 (b1).length c3), (3, .slice A18 (y14).length c19), (4, .pointer (some ⟨g26, 0, none⟩)), (5, .int .i64 y22.2.1), (6, .int .i64 y22.2.2), (7, .slice A35 (y31.1).length c36), (8, .int .i64 y31.2), (9, .slice A44 (y40.1).length c45), (10, .int .i64 y40.2), (11, .int .i64 t510)] a ∧ Mem w [] w511 [.row A18 c19 5 1 (y14).length ((y14).flatMap (eI .u8)), .box g26 41 [.int .u8 y22.1.f_TOS, .int .u16 y22.1.f_Total, .int .u16 y22.1.f_ID, .bool y22.1.f_DF, .bool y22.1.f_MF, .int .u16 y22.1.f_Frag, .int .u8 y22.1.f_TTL, .int .u8 y22.1.f_Proto, .string y22.1.f_Src, .string y22.1.f_Dst, .string y22.1.f_Options], .row A44 c45 5 1 (y40.1).length ((y40.1).flatMap (eI .u8))] ∧ F_law05_IpParses_L1 b1 y14 y22 y31 y40 k513 t510 = some r) ?_ ?_
    · exact fun a ha => ⟨fuel0, 0, ha.less (less_cons rfl (less_cons rfl (less_cons rfl (less_cons rfl (less_cons rfl (less_cons rfl (less_cons rfl (less_cons rfl (less_cons rfl (less_cons rfl less_nil)))))))))), hM, hF⟩
    · rintro k513 a w511 ⟨t510, ha, hM, hF⟩
      refine KC.app ha ?_
      clear ha
      cases k513 with
      | zero => exact (none_some hF).elim
      | succ k513 =>
      have hF : F_law05_IpParses_l1 (F_law05_IpParses_L1 b1 y14 y22 y31 y40 k513) b1 y14 y22 y31 y40 t510 = some r := hF
      unfold F_law05_IpParses_l1 at hF
      refine KC.seqH fun Q514 hQ514 => ?_
      refine KC.seqH fun Q515 hQ515 => ?_
      refine KC.region ?_
      refine RL.val (O.move rfl) rfl ?_
      refine RL.val (O.lss rfl rfl) rfl ?_
      refine RL.nil ?_
      refine KQ.thn hQ515 ?_
      clear hQ515 Q515
      refine KC.cond rfl (fun hc => ?_) (fun hc => ?_)
      · rw [if_pos hc] at hF
        refine KC.skip ?_
        refine KQ.thn hQ514 ?_
        clear hQ514 Q514
        refine KC.seqH fun Q516 hQ516 => ?_
        refine KC.block ?_
        refine KC.seqH fun Q517 hQ517 => ?_
        refine KC.region ?_
        refine RL.val (O.move rfl) rfl ?_
        refine obindE hF fun y518 hx519 hF => ?_
        refine RL.call Try.func19 bd19 rfl rfl (c_ip_Parse _ _ _ b1 (hM.inp hr4 Off.nil) _ hx519) fun v w520 hv => ?_
        obtain ⟨A522, c523, rfl, hN521⟩ := hv
        replace hM := hM.call hN521
        refine RL.val (O.move rfl) rfl ?_
        refine RL.val (O.ext rfl rfl) rfl ?_
        refine RL.val (O.ext rfl rfl) rfl ?_
        refine RL.val (O.ext rfl rfl) rfl ?_
        refine RL.eff (E.alloc hM ze39) rfl fun v w526 hv => ?_
        clear hM
        obtain ⟨g525, rfl, hM, hf⟩ := hv
        refine RL.effs (E.stB (j := 4) (off := 0) (vs := [.int .u8 y518.1.f_TOS, .int .u16 y518.1.f_Total, .int .u16 y518.1.f_ID, .bool y518.1.f_DF, .bool y518.1.f_MF, .int .u16 y518.1.f_Frag, .int .u8 y518.1.f_TTL, .int .u8 y518.1.f_Proto, .int .u8 (List.getD y518.1.f_Src 0 0), .int .u8 (List.getD y518.1.f_Src 1 0), .int .u8 (List.getD y518.1.f_Src 2 0), .int .u8 (List.getD y518.1.f_Src 3 0), .int .u8 (List.getD y518.1.f_Dst 0 0), .int .u8 (List.getD y518.1.f_Dst 1 0), .int .u8 (List.getD y518.1.f_Dst 2 0), .int .u8 (List.getD y518.1.f_Dst 3 0), .slice A522 (y518.1.f_Options).length c523]) (cs' := [.int .u8 y518.1.f_TOS, .int .u16 y518.1.f_Total, .int .u16 y518.1.f_ID, .bool y518.1.f_DF, .bool y518.1.f_MF, .int .u16 y518.1.f_Frag, .int .u8 y518.1.f_TTL, .int .u8 y518.1.f_Proto, .int .u8 (List.getD y518.1.f_Src 0 0), .int .u8 (List.getD y518.1.f_Src 1 0), .int .u8 (List.getD y518.1.f_Src 2 0), .int .u8 (List.getD y518.1.f_Src 3 0), .int .u8 (List.getD y518.1.f_Dst 0 0), .int .u8 (List.getD y518.1.f_Dst 1 0), .int .u8 (List.getD y518.1.f_Dst 2 0), .int .u8 (List.getD y518.1.f_Dst 3 0), .slice A522 (y518.1.f_Options).length c523]) hM rfl sz39 rfl (adds_eq [] rfl) rfl rfl (One.all rfl) rfl rfl) fun w528 hM1 => ?_
        clear hM
        have hM := hM1
        clear hM1
        refine RL.val (O.assign rfl) rfl ?_
        refine RL.val (O.assign rfl) rfl ?_
        refine RL.nil ?_
        refine KQ.thn hQ517 ?_
        clear hQ517 Q517
        refine KC.seqH fun Q529 hQ529 => ?_
        refine KC.region ?_
        refine RL.val (O.move rfl) rfl ?_
        refine obindE hF fun y530 hx531 hF => ?_
        refine RL.call Try.func25 bd25 rfl rfl (c_ip_Body _ _ _ b1 (hM.inp hr4 Off.nil) _ hx531) fun v w532 hv => ?_
        obtain ⟨A534, c535, rfl, hN533⟩ := hv
        replace hM := hM.call hN533
        refine RL.val (O.move rfl) rfl ?_
        refine RL.val (O.ext rfl rfl) rfl ?_
        refine RL.val (O.ext rfl rfl) rfl ?_
        refine RL.val (O.assign rfl) rfl ?_
        refine RL.val (O.assign rfl) rfl ?_
        refine RL.nil ?_
        refine KQ.thn hQ529 ?_
        clear hQ529 Q529
        refine KC.seqH fun Q537 hQ537 => ?_
        refine KC.region ?_
        refine RL.val (O.move rfl) rfl ?_
        refine obindE hF fun y538 hx539 hF => ?_
        refine RL.call Try.func21 bd21 rfl rfl (c_ip_Hop _ _ _ b1 (hM.inp hr4 Off.nil) _ hx539) fun v w540 hv => ?_
        obtain ⟨A542, c543, rfl, hN541⟩ := hv
        replace hM := hM.call hN541
        refine RL.val (O.move rfl) rfl ?_
        refine RL.val (O.ext rfl rfl) rfl ?_
        refine RL.val (O.ext rfl rfl) rfl ?_
        refine RL.val (O.assign rfl) rfl ?_
        refine RL.val (O.assign rfl) rfl ?_
        refine RL.nil ?_
        refine KQ.thn hQ537 ?_
        clear hQ537 Q537
        refine KC.seqH fun Q545 hQ545 => ?_
        refine KC.cut (fun a w570 => ∃ (t569 : Bool), Kn 145 [(0, .slice A2 (b1).length c3), (3, .slice A18 (y14).length c19), (4, .pointer (some ⟨g26, 0, none⟩)), (5, .int .i64 y22.2.1), (6, .int .i64 y22.2.2), (7, .slice A35 (y31.1).length c36), (8, .int .i64 y31.2), (9, .slice A44 (y40.1).length c45), (10, .int .i64 y40.2), (11, .int .i64 t510), (12, .pointer (some ⟨g525, 0, none⟩)), (15, .slice A534 (y530.1).length c535), (17, .slice A542 (y538.1).length c543), (100, .bool t569)] a ∧ Mem w [] w570 [.row A18 c19 5 1 (y14).length ((y14).flatMap (eI .u8)), .box g26 41 [.int .u8 y22.1.f_TOS, .int .u16 y22.1.f_Total, .int .u16 y22.1.f_ID, .bool y22.1.f_DF, .bool y22.1.f_MF, .int .u16 y22.1.f_Frag, .int .u8 y22.1.f_TTL, .int .u8 y22.1.f_Proto, .string y22.1.f_Src, .string y22.1.f_Dst, .string y22.1.f_Options], .row A44 c45 5 1 (y40.1).length ((y40.1).flatMap (eI .u8)), .row A522 c523 5 1 (y518.1.f_Options).length ((y518.1.f_Options).flatMap (eI .u8)), .box g525 39 [.int .u8 y518.1.f_TOS, .int .u16 y518.1.f_Total, .int .u16 y518.1.f_ID, .bool y518.1.f_DF, .bool y518.1.f_MF, .int .u16 y518.1.f_Frag, .int .u8 y518.1.f_TTL, .int .u8 y518.1.f_Proto, .int .u8 (List.getD y518.1.f_Src 0 0), .int .u8 (List.getD y518.1.f_Src 1 0), .int .u8 (List.getD y518.1.f_Src 2 0), .int .u8 (List.getD y518.1.f_Src 3 0), .int .u8 (List.getD y518.1.f_Dst 0 0), .int .u8 (List.getD y518.1.f_Dst 1 0), .int .u8 (List.getD y518.1.f_Dst 2 0), .int .u8 (List.getD y518.1.f_Dst 3 0), .slice A522 (y518.1.f_Options).length c523], .row A534 c535 5 1 (y530.1).length ((y530.1).flatMap (eI .u8)), .row A542 c543 5 1 (y538.1).length ((y538.1).flatMap (eI .u8))] ∧ F_law05_IpParses_j1 t510 (F_law05_IpParses_L1 b1 y14 y22 y31 y40 k513) y518 y530 y538 t569 = some r) ?_ ?_
        · replace hM := hM.drewN 1
          refine KC.draw [] [] [10, 12, 23, 34] [0, 1, 2, 3, 4, 5, 6, 7, 8, 13, 14, 15, 16, 17, 18, 19, 20, 21, 22, 24, 25, 26, 27, 28, 29, 30, 31, 32, 33, 35, 36] (.ofList [0, 1, 2, 3, 4, 5, 6, 7, 8, 9, 11, 10, 12, 13, 14, 15, 16, 17, 18, 19, 20, 21, 22, 23, 24, 25, 26, 27, 28, 29, 30, 31, 32, 33, 34, 35, 36]) moP (by kernel_rfl) ?_
          refine RD.p rfl rfl rfl rfl (fun w' => O.move rfl) ?_
          refine RD.p rfl rfl rfl rfl (fun w' => O.move rfl) ?_
          refine RD.p rfl rfl rfl rfl (fun w' => O.neq rfl rfl) ?_
          refine RD.p rfl rfl rfl rfl (fun w' => O.move rfl) ?_
          refine RD.bcase (t := 67) rfl (fun hc => ?_) (fun hc => ?_)
          · rw [if_pos hc] at hF
            refine RD.gskip rfl rfl rfl rfl rfl ?_
            refine RD.gskip rfl rfl rfl rfl rfl ?_
            refine RD.gskip rfl rfl rfl rfl rfl ?_
            refine RD.p rfl rfl rfl rfl (fun w' => O.pickt rfl rfl) ?_
            refine RD.p rfl rfl rfl rfl (fun w' => O.move rfl) ?_
            refine RD.gskip rfl rfl rfl rfl rfl ?_
            refine RD.gskip rfl rfl rfl rfl rfl ?_
            refine RD.gskip rfl rfl rfl rfl rfl ?_
            refine RD.gskip rfl rfl rfl rfl rfl ?_
            refine RD.gskip rfl rfl rfl rfl rfl ?_
            refine RD.p rfl rfl rfl rfl (fun w' => O.pickt rfl rfl) ?_
            refine RD.p rfl rfl rfl rfl (fun w' => O.move rfl) ?_
            refine RD.gskip rfl rfl rfl rfl rfl ?_
            refine RD.gskip rfl rfl rfl rfl rfl ?_
            refine RD.gskip rfl rfl rfl rfl rfl ?_
            refine RD.p rfl rfl rfl rfl (fun w' => O.pickt rfl rfl) ?_
            refine RD.p rfl rfl rfl rfl (fun w' => O.move rfl) ?_
            refine RD.gskip rfl rfl rfl rfl rfl ?_
            refine RD.gskip rfl rfl rfl rfl rfl ?_
            refine RD.gskip rfl rfl rfl rfl rfl ?_
            refine RD.gskip rfl rfl rfl rfl rfl ?_
            refine RD.p rfl rfl rfl rfl (fun w' => O.pickt rfl rfl) ?_
            refine RD.p rfl rfl rfl rfl (fun w' => O.move rfl) ?_
            refine RD.gskip rfl rfl rfl rfl rfl ?_
            refine RD.gskip rfl rfl rfl rfl rfl ?_
            refine RD.gskip rfl rfl rfl rfl rfl ?_
            refine RD.p rfl rfl rfl rfl (fun w' => O.pickt rfl rfl) ?_
            refine RD.p rfl rfl rfl rfl (fun w' => O.move rfl) ?_
            refine RD.gskip rfl rfl rfl rfl rfl ?_
            refine RD.gskip rfl rfl rfl rfl rfl ?_
            refine RD.gskip rfl rfl rfl rfl rfl ?_
            refine RD.gskip rfl rfl rfl rfl rfl ?_
            refine RD.p rfl rfl rfl rfl (fun w' => O.pickt rfl rfl) ?_
            refine RD.nil ?_
            refine KQ.then_k ?_
            exact fun a ha => ⟨true, ha.less (less_cons rfl (less_cons rfl (less_cons rfl (less_cons rfl (less_cons rfl (less_cons rfl (less_cons rfl (less_cons rfl (less_cons rfl (less_cons rfl (less_cons rfl (less_cons rfl (less_cons rfl (less_cons rfl less_nil)))))))))))))), hM, hF⟩
          · rw [if_neg (ne_true hc)] at hF
            refine RD.gp rfl rfl rfl rfl rfl rfl (fun w' => O.move rfl) ?_
            refine RD.gp rfl rfl rfl rfl rfl rfl (fun w' => O.move rfl) ?_
            refine RD.gp rfl rfl rfl rfl rfl rfl (fun w' => O.neq rfl rfl) ?_
            refine RD.p rfl rfl rfl rfl (fun w' => O.pickf rfl rfl) ?_
            refine RD.p rfl rfl rfl rfl (fun w' => O.move rfl) ?_
            refine RD.bcase (t := 72) rfl (fun hc => ?_) (fun hc => ?_)
            · rw [if_pos hc] at hF
              refine RD.gskip rfl rfl rfl rfl rfl ?_
              refine RD.gskip rfl rfl rfl rfl rfl ?_
              refine RD.gskip rfl rfl rfl rfl rfl ?_
              refine RD.gskip rfl rfl rfl rfl rfl ?_
              refine RD.gskip rfl rfl rfl rfl rfl ?_
              refine RD.p rfl rfl rfl rfl (fun w' => O.pickt rfl rfl) ?_
              refine RD.p rfl rfl rfl rfl (fun w' => O.move rfl) ?_
              refine RD.gskip rfl rfl rfl rfl rfl ?_
              refine RD.gskip rfl rfl rfl rfl rfl ?_
              refine RD.gskip rfl rfl rfl rfl rfl ?_
              refine RD.p rfl rfl rfl rfl (fun w' => O.pickt rfl rfl) ?_
              refine RD.p rfl rfl rfl rfl (fun w' => O.move rfl) ?_
              refine RD.gskip rfl rfl rfl rfl rfl ?_
              refine RD.gskip rfl rfl rfl rfl rfl ?_
              refine RD.gskip rfl rfl rfl rfl rfl ?_
              refine RD.gskip rfl rfl rfl rfl rfl ?_
              refine RD.p rfl rfl rfl rfl (fun w' => O.pickt rfl rfl) ?_
              refine RD.p rfl rfl rfl rfl (fun w' => O.move rfl) ?_
              refine RD.gskip rfl rfl rfl rfl rfl ?_
              refine RD.gskip rfl rfl rfl rfl rfl ?_
              refine RD.gskip rfl rfl rfl rfl rfl ?_
              refine RD.p rfl rfl rfl rfl (fun w' => O.pickt rfl rfl) ?_
              refine RD.p rfl rfl rfl rfl (fun w' => O.move rfl) ?_
              refine RD.gskip rfl rfl rfl rfl rfl ?_
              refine RD.gskip rfl rfl rfl rfl rfl ?_
              refine RD.gskip rfl rfl rfl rfl rfl ?_
              refine RD.gskip rfl rfl rfl rfl rfl ?_
              refine RD.p rfl rfl rfl rfl (fun w' => O.pickt rfl rfl) ?_
              refine RD.nil ?_
              refine KQ.then_k ?_
              exact fun a ha => ⟨true, ha.less (less_cons rfl (less_cons rfl (less_cons rfl (less_cons rfl (less_cons rfl (less_cons rfl (less_cons rfl (less_cons rfl (less_cons rfl (less_cons rfl (less_cons rfl (less_cons rfl (less_cons rfl (less_cons rfl less_nil)))))))))))))), hM, hF⟩
            · rw [if_neg (ne_true hc)] at hF
              refine RD.gq rfl rfl rfl rfl rfl rfl (fun w' hf => O.loadN (cs := [.int .u8 y518.1.f_TOS, .int .u16 y518.1.f_Total, .int .u16 y518.1.f_ID, .bool y518.1.f_DF, .bool y518.1.f_MF, .int .u16 y518.1.f_Frag, .int .u8 y518.1.f_TTL, .int .u8 y518.1.f_Proto, .int .u8 (List.getD y518.1.f_Src 0 0), .int .u8 (List.getD y518.1.f_Src 1 0), .int .u8 (List.getD y518.1.f_Src 2 0), .int .u8 (List.getD y518.1.f_Src 3 0), .int .u8 (List.getD y518.1.f_Dst 0 0), .int .u8 (List.getD y518.1.f_Dst 1 0), .int .u8 (List.getD y518.1.f_Dst 2 0), .int .u8 (List.getD y518.1.f_Dst 3 0), .slice A522 (y518.1.f_Options).length c523]) ag39 rfl (Cs.addsN [] ((hM.bx (i := 4) rfl).fut hf) rfl)) ?_
              refine RD.gq rfl rfl rfl rfl rfl rfl (fun w' hf => O.loadN (cs := [.int .u8 y22.1.f_TOS, .int .u16 y22.1.f_Total, .int .u16 y22.1.f_ID, .bool y22.1.f_DF, .bool y22.1.f_MF, .int .u16 y22.1.f_Frag, .int .u8 y22.1.f_TTL, .int .u8 y22.1.f_Proto, .string y22.1.f_Src, .string y22.1.f_Dst, .string y22.1.f_Options]) ag41 rfl (Cs.addsN [] ((hM.bx (i := 1) rfl).fut hf) rfl)) ?_
              refine obindE hF fun y546 hx547 hF => ?_
              refine RD.mcall rfl rfl ⟨rfl, rfl⟩ Try.func11 bd11 rfl rfl (c_docs_Ip _ y518.1 _ _ (hM.rd (i := 3) rfl) _ hx547) fun v w548 hv => ?_
              obtain ⟨rfl, hN549⟩ := hv
              refine ⟨fun _ => hN549.fut, ?_⟩
              replace hM := hM.call0 hN549
              refine obindE hF fun y550 hx551 hF => ?_
              refine RD.mcall rfl rfl ⟨rfl, rfl⟩ Try.func26 bd26 rfl rfl (c_law05_pad _ y22.1 _ hx551) fun v w552 hv => ?_
              obtain ⟨rfl, hN553⟩ := hv
              refine ⟨fun _ => hN553.fut, ?_⟩
              replace hM := hM.call0 hN553
              refine RD.gp rfl rfl rfl rfl rfl rfl (fun w' => O.stne (cs := [.int .u8 y546.f_TOS, .int .u16 y546.f_Total, .int .u16 y546.f_ID, .bool y546.f_DF, .bool y546.f_MF, .int .u16 y546.f_Frag, .int .u8 y546.f_TTL, .int .u8 y546.f_Proto, .string y546.f_Src, .string y546.f_Dst, .string y546.f_Options]) (cs' := [.int .u8 y550.f_TOS, .int .u16 y550.f_Total, .int .u16 y550.f_ID, .bool y550.f_DF, .bool y550.f_MF, .int .u16 y550.f_Frag, .int .u8 y550.f_TTL, .int .u8 y550.f_Proto, .string y550.f_Src, .string y550.f_Dst, .string y550.f_Options]) (by kernel_rfl) rfl rfl (Q41t y546 y550 _ rfl rfl)) ?_
              refine RD.p rfl rfl rfl rfl (fun w' => O.pickf rfl rfl) ?_
              refine RD.p rfl rfl rfl rfl (fun w' => O.move rfl) ?_
              refine RD.bcase (t := 79) rfl (fun hc => ?_) (fun hc => ?_)
              · rw [if_pos hc] at hF
                refine RD.gskip rfl rfl rfl rfl rfl ?_
                refine RD.gskip rfl rfl rfl rfl rfl ?_
                refine RD.gskip rfl rfl rfl rfl rfl ?_
                refine RD.p rfl rfl rfl rfl (fun w' => O.pickt rfl rfl) ?_
                refine RD.p rfl rfl rfl rfl (fun w' => O.move rfl) ?_
                refine RD.gskip rfl rfl rfl rfl rfl ?_
                refine RD.gskip rfl rfl rfl rfl rfl ?_
                refine RD.gskip rfl rfl rfl rfl rfl ?_
                refine RD.gskip rfl rfl rfl rfl rfl ?_
                refine RD.p rfl rfl rfl rfl (fun w' => O.pickt rfl rfl) ?_
                refine RD.p rfl rfl rfl rfl (fun w' => O.move rfl) ?_
                refine RD.gskip rfl rfl rfl rfl rfl ?_
                refine RD.gskip rfl rfl rfl rfl rfl ?_
                refine RD.gskip rfl rfl rfl rfl rfl ?_
                refine RD.p rfl rfl rfl rfl (fun w' => O.pickt rfl rfl) ?_
                refine RD.p rfl rfl rfl rfl (fun w' => O.move rfl) ?_
                refine RD.gskip rfl rfl rfl rfl rfl ?_
                refine RD.gskip rfl rfl rfl rfl rfl ?_
                refine RD.gskip rfl rfl rfl rfl rfl ?_
                refine RD.gskip rfl rfl rfl rfl rfl ?_
                refine RD.p rfl rfl rfl rfl (fun w' => O.pickt rfl rfl) ?_
                refine RD.nil ?_
                refine KQ.then_k ?_
                exact fun a ha => ⟨true, ha.less (less_cons rfl (less_cons rfl (less_cons rfl (less_cons rfl (less_cons rfl (less_cons rfl (less_cons rfl (less_cons rfl (less_cons rfl (less_cons rfl (less_cons rfl (less_cons rfl (less_cons rfl (less_cons rfl less_nil)))))))))))))), hM, hF⟩
              · rw [if_neg (ne_true hc)] at hF
                refine RD.gp rfl rfl rfl rfl rfl rfl (fun w' => O.move rfl) ?_
                refine RD.gp rfl rfl rfl rfl rfl rfl (fun w' => O.move rfl) ?_
                refine RD.gp rfl rfl rfl rfl rfl rfl (fun w' => O.neq rfl rfl) ?_
                refine RD.p rfl rfl rfl rfl (fun w' => O.pickf rfl rfl) ?_
                refine RD.p rfl rfl rfl rfl (fun w' => O.move rfl) ?_
                refine RD.bcase (t := 84) rfl (fun hc => ?_) (fun hc => ?_)
                · rw [if_pos hc] at hF
                  refine RD.gskip rfl rfl rfl rfl rfl ?_
                  refine RD.gskip rfl rfl rfl rfl rfl ?_
                  refine RD.gskip rfl rfl rfl rfl rfl ?_
                  refine RD.gskip rfl rfl rfl rfl rfl ?_
                  refine RD.p rfl rfl rfl rfl (fun w' => O.pickt rfl rfl) ?_
                  refine RD.p rfl rfl rfl rfl (fun w' => O.move rfl) ?_
                  refine RD.gskip rfl rfl rfl rfl rfl ?_
                  refine RD.gskip rfl rfl rfl rfl rfl ?_
                  refine RD.gskip rfl rfl rfl rfl rfl ?_
                  refine RD.p rfl rfl rfl rfl (fun w' => O.pickt rfl rfl) ?_
                  refine RD.p rfl rfl rfl rfl (fun w' => O.move rfl) ?_
                  refine RD.gskip rfl rfl rfl rfl rfl ?_
                  refine RD.gskip rfl rfl rfl rfl rfl ?_
                  refine RD.gskip rfl rfl rfl rfl rfl ?_
                  refine RD.gskip rfl rfl rfl rfl rfl ?_
                  refine RD.p rfl rfl rfl rfl (fun w' => O.pickt rfl rfl) ?_
                  refine RD.nil ?_
                  refine KQ.then_k ?_
                  exact fun a ha => ⟨true, ha.less (less_cons rfl (less_cons rfl (less_cons rfl (less_cons rfl (less_cons rfl (less_cons rfl (less_cons rfl (less_cons rfl (less_cons rfl (less_cons rfl (less_cons rfl (less_cons rfl (less_cons rfl (less_cons rfl less_nil)))))))))))))), hM, hF⟩
                · rw [if_neg (ne_true hc)] at hF
                  refine RD.gp rfl rfl rfl rfl rfl rfl (fun w' => O.move rfl) ?_
                  refine RD.gp rfl rfl rfl rfl rfl rfl (fun w' => O.move rfl) ?_
                  refine obindE hF fun y554 hx555 hF => ?_
                  refine RD.mcall rfl rfl ⟨rfl, rfl⟩ Try.func14 bd14 rfl rfl (c_ref01_Same _ _ _ y530.1 (hM.rd (i := 5) rfl) _ _ y31.1 (hM.inp hr38 Off.nil) _ hx555) fun v w556 hv => ?_
                  obtain ⟨rfl, hN557⟩ := hv
                  refine ⟨fun _ => hN557.fut, ?_⟩
                  replace hM := hM.call0 hN557
                  refine RD.gp rfl rfl rfl rfl rfl rfl (fun w' => O.not rfl) ?_
                  refine RD.p rfl rfl rfl rfl (fun w' => O.pickf rfl rfl) ?_
                  refine RD.p rfl rfl rfl rfl (fun w' => O.move rfl) ?_
                  refine RD.bcase (t := 90) rfl (fun hc => ?_) (fun hc => ?_)
                  · rw [if_pos hc] at hF
                    refine RD.gskip rfl rfl rfl rfl rfl ?_
                    refine RD.gskip rfl rfl rfl rfl rfl ?_
                    refine RD.gskip rfl rfl rfl rfl rfl ?_
                    refine RD.p rfl rfl rfl rfl (fun w' => O.pickt rfl rfl) ?_
                    refine RD.p rfl rfl rfl rfl (fun w' => O.move rfl) ?_
                    refine RD.gskip rfl rfl rfl rfl rfl ?_
                    refine RD.gskip rfl rfl rfl rfl rfl ?_
                    refine RD.gskip rfl rfl rfl rfl rfl ?_
                    refine RD.gskip rfl rfl rfl rfl rfl ?_
                    refine RD.p rfl rfl rfl rfl (fun w' => O.pickt rfl rfl) ?_
                    refine RD.nil ?_
                    refine KQ.then_k ?_
                    exact fun a ha => ⟨true, ha.less (less_cons rfl (less_cons rfl (less_cons rfl (less_cons rfl (less_cons rfl (less_cons rfl (less_cons rfl (less_cons rfl (less_cons rfl (less_cons rfl (less_cons rfl (less_cons rfl (less_cons rfl (less_cons rfl less_nil)))))))))))))), hM, hF⟩
                  · rw [if_neg (ne_true hc)] at hF
                    refine RD.gp rfl rfl rfl rfl rfl rfl (fun w' => O.move rfl) ?_
                    refine RD.gp rfl rfl rfl rfl rfl rfl (fun w' => O.move rfl) ?_
                    refine RD.gp rfl rfl rfl rfl rfl rfl (fun w' => O.neq rfl rfl) ?_
                    refine RD.p rfl rfl rfl rfl (fun w' => O.pickf rfl rfl) ?_
                    refine RD.p rfl rfl rfl rfl (fun w' => O.move rfl) ?_
                    refine RD.bcase (t := 95) rfl (fun hc => ?_) (fun hc => ?_)
                    · rw [if_pos hc] at hF
                      refine RD.gskip rfl rfl rfl rfl rfl ?_
                      refine RD.gskip rfl rfl rfl rfl rfl ?_
                      refine RD.gskip rfl rfl rfl rfl rfl ?_
                      refine RD.gskip rfl rfl rfl rfl rfl ?_
                      refine RD.p rfl rfl rfl rfl (fun w' => O.pickt rfl rfl) ?_
                      refine RD.nil ?_
                      refine KQ.then_k ?_
                      exact fun a ha => ⟨true, ha.less (less_cons rfl (less_cons rfl (less_cons rfl (less_cons rfl (less_cons rfl (less_cons rfl (less_cons rfl (less_cons rfl (less_cons rfl (less_cons rfl (less_cons rfl (less_cons rfl (less_cons rfl (less_cons rfl less_nil)))))))))))))), hM, hF⟩
                    · rw [if_neg (ne_true hc)] at hF
                      refine RD.gp rfl rfl rfl rfl rfl rfl (fun w' => O.move rfl) ?_
                      refine RD.gp rfl rfl rfl rfl rfl rfl (fun w' => O.move rfl) ?_
                      refine obindE hF fun y558 hx559 hF => ?_
                      refine RD.mcall rfl rfl ⟨rfl, rfl⟩ Try.func14 bd14 rfl rfl (c_ref01_Same _ _ _ y538.1 (hM.rd (i := 6) rfl) _ _ y40.1 (hM.rd (i := 2) rfl) _ hx559) fun v w560 hv => ?_
                      obtain ⟨rfl, hN561⟩ := hv
                      refine ⟨fun _ => hN561.fut, ?_⟩
                      replace hM := hM.call0 hN561
                      refine RD.gp rfl rfl rfl rfl rfl rfl (fun w' => O.not rfl) ?_
                      refine RD.p rfl rfl rfl rfl (fun w' => O.pickf rfl rfl) ?_
                      refine RD.nil ?_
                      refine KQ.then_k ?_
                      exact fun a ha => ⟨(!y558), ha.less (less_cons rfl (less_cons rfl (less_cons rfl (less_cons rfl (less_cons rfl (less_cons rfl (less_cons rfl (less_cons rfl (less_cons rfl (less_cons rfl (less_cons rfl (less_cons rfl (less_cons rfl (less_cons rfl less_nil)))))))))))))), hM, hF⟩
        · rintro a w570 ⟨t569, ha, hM, hF⟩
          refine KC.app ha ?_
          clear ha
          unfold F_law05_IpParses_j1 at hF
          refine KC.cond rfl (fun hc => ?_) (fun hc => ?_)
          · rw [if_pos hc] at hF
            refine KC.seqH fun Q571 hQ571 => ?_
            refine KC.region ?_
            refine RL.val (O.assign rfl) rfl ?_
            refine RL.nil ?_
            refine KQ.thn hQ571 ?_
            clear hQ571 Q571
            refine KC.ret ?_
            refine KQ.thr hQ545 ?_
            clear hQ545 Q545
            refine KQ.blk_r ?_
            refine KQ.thr hQ516 ?_
            clear hQ516 Q516
            refine KQ.then_r ?_
            refine KQ.blk_r ?_
            refine KQ.thr hQ47 ?_
            clear hQ47 Q47
            have hE := Option.some.inj hF
            clear hF
            subst hE
            replace hM := hM.pick [] rfl (by decide)
            refine KQ.rets Try.results6 (RVs.cons (RV.tm rfl) RVs.nil) ?_
            exact ⟨_, rfl, rfl, hM⟩
          · rw [if_neg (ne_true hc)] at hF
            refine KC.skip ?_
            refine KQ.thn hQ545 ?_
            clear hQ545 Q545
            refine KC.seqH fun Q572 hQ572 => ?_
            refine KC.seqH fun Q573 hQ573 => ?_
            refine KC.region ?_
            refine RL.val (O.assign rfl) rfl ?_
            refine RL.nil ?_
            refine KQ.thn hQ573 ?_
            clear hQ573 Q573
            refine KC.block ?_
            refine KC.loop (fun k620 a w618 => ∃ (A612 : Option Addr) (c613 : Nat) (h614 : List Int) (q617 : Int), Kn 145 [(0, .slice A2 (b1).length c3), (3, .slice A18 (y14).length c19), (4, .pointer (some ⟨g26, 0, none⟩)), (5, .int .i64 y22.2.1), (6, .int .i64 y22.2.2), (7, .slice A35 (y31.1).length c36), (8, .int .i64 y31.2), (9, .slice A44 (y40.1).length c45), (10, .int .i64 y40.2), (11, .int .i64 t510), (12, .pointer (some ⟨g525, 0, none⟩)), (15, .slice A534 (y530.1).length c535), (17, .slice A542 (y538.1).length c543), (19, .int .i64 q617)] a ∧ Mem w [] w618 [.row A18 c19 5 1 (y14).length ((y14).flatMap (eI .u8)), .box g26 41 [.int .u8 y22.1.f_TOS, .int .u16 y22.1.f_Total, .int .u16 y22.1.f_ID, .bool y22.1.f_DF, .bool y22.1.f_MF, .int .u16 y22.1.f_Frag, .int .u8 y22.1.f_TTL, .int .u8 y22.1.f_Proto, .string y22.1.f_Src, .string y22.1.f_Dst, .string y22.1.f_Options], .row A44 c45 5 1 (y40.1).length ((y40.1).flatMap (eI .u8)), .row A612 c613 5 1 (h614).length ((h614).flatMap (eI .u8)), .box g525 39 [.int .u8 y518.1.f_TOS, .int .u16 y518.1.f_Total, .int .u16 y518.1.f_ID, .bool y518.1.f_DF, .bool y518.1.f_MF, .int .u16 y518.1.f_Frag, .int .u8 y518.1.f_TTL, .int .u8 y518.1.f_Proto, .int .u8 (List.getD y518.1.f_Src 0 0), .int .u8 (List.getD y518.1.f_Src 1 0), .int .u8 (List.getD y518.1.f_Src 2 0), .int .u8 (List.getD y518.1.f_Src 3 0), .int .u8 (List.getD y518.1.f_Dst 0 0), .int .u8 (List.getD y518.1.f_Dst 1 0), .int .u8 (List.getD y518.1.f_Dst 2 0), .int .u8 (List.getD y518.1.f_Dst 3 0), .slice A612 (h614).length c613], .row A534 c535 5 1 (y530.1).length ((y530.1).flatMap (eI .u8)), .row A542 c543 5 1 (y538.1).length ((y538.1).flatMap (eI .u8))] ∧ F_law05_IpParses_L2 t510 (F_law05_IpParses_L1 b1 y14 y22 y31 y40 k513) y530 y538 k620 h614 q617 = some r) ?_ ?_
            · exact fun a ha => ⟨fuel0, A522, c523, y518.1.f_Options, 0, ha.less (less_cons rfl (less_cons rfl (less_cons rfl (less_cons rfl (less_cons rfl (less_cons rfl (less_cons rfl (less_cons rfl (less_cons rfl (less_cons rfl (less_cons rfl (less_cons rfl (less_cons rfl (less_cons rfl less_nil)))))))))))))), hM, hF⟩
            · rintro k620 a w618 ⟨A612, c613, h614, q617, ha, hM, hF⟩
              refine KC.app ha ?_
              clear ha
              cases k620 with
              | zero => exact (none_some hF).elim
              | succ k620 =>
              have hF : F_law05_IpParses_l2 (F_law05_IpParses_L2 t510 (F_law05_IpParses_L1 b1 y14 y22 y31 y40 k513) y530 y538 k620) t510 (F_law05_IpParses_L1 b1 y14 y22 y31 y40 k513) y530 y538 h614 q617 = some r := hF
              unfold F_law05_IpParses_l2 at hF
              refine KC.seqH fun Q621 hQ621 => ?_
              refine KC.seqH fun Q622 hQ622 => ?_
              refine KC.region ?_
              refine RL.val (O.move rfl) rfl ?_
              refine RL.val (O.fldA fl39_10 (by decide) rfl) rfl ?_
              refine RL.val (O.load sc22 rfl (Cs.adds [16] ((hM.bx (i := 4) rfl)) rfl)) rfl ?_
              refine RL.val (O.len sl22 rfl) rfl ?_
              refine RL.val (O.lss rfl rfl) rfl ?_
              refine RL.nil ?_
              refine KQ.thn hQ622 ?_
              clear hQ622 Q622
              refine KC.cond rfl (fun hc => ?_) (fun hc => ?_)
              · rw [if_pos hc] at hF
                refine KC.skip ?_
                refine KQ.thn hQ621 ?_
                clear hQ621 Q621
                refine KC.seqH fun Q623 hQ623 => ?_
                refine KC.block ?_
                refine KC.region ?_
                refine RL.val (O.fldA fl39_10 (by decide) rfl) rfl ?_
                refine RL.val (O.load sc22 rfl (Cs.adds [16] ((hM.bx (i := 4) rfl)) rfl)) rfl ?_
                refine RL.val (O.move rfl) rfl ?_
                refine obindE hF fun xv626 hx625 hF => ?_
                have hA624 := Rd.atN (f := (eI .u8)) (s := 1) (fun _ => rfl) (by decide) (hM.rd (i := 3) rfl) hx625
                refine RL.val (O.idxA sl22 (hA624) rfl rfl) rfl ?_
                refine RL.val (O.load sc5 rfl (hA624).cells.at0) rfl ?_
                refine RL.val (O.add rfl rfl) rfl ?_
                refine obindE hF fun xv629 hx628 hF => ?_
                have hA627 := Rd.atN (f := (eI .u8)) (s := 1) (fun _ => rfl) (by decide) (hM.rd (i := 3) rfl) hx628
                refine RL.val (O.idxA sl22 (hA627) rfl rfl) rfl ?_
                refine RL.effs (E.stR (enc := (eI .u8)) (j := 3) (off := 0) (vs := [.int .u8 (IntKind.u8.wrap (xv626 + 1))]) (x' := (IntKind.u8.wrap (xv626 + 1))) hM rfl (fun _ => rfl) hx628 sz5 rfl (addsR_eq [] rfl) rfl rfl (One.all rfl) rfl rfl) fun w630 hM1 => ?_
                clear hM
                obtain ⟨hM, hn631⟩ := hM1
                refine RL.reslot (t := 109) rfl hn631 ?_
                replace hM := hM.rebox (i := 4) (cs' := [.int .u8 y518.1.f_TOS, .int .u16 y518.1.f_Total, .int .u16 y518.1.f_ID, .bool y518.1.f_DF, .bool y518.1.f_MF, .int .u16 y518.1.f_Frag, .int .u8 y518.1.f_TTL, .int .u8 y518.1.f_Proto, .int .u8 (List.getD y518.1.f_Src 0 0), .int .u8 (List.getD y518.1.f_Src 1 0), .int .u8 (List.getD y518.1.f_Src 2 0), .int .u8 (List.getD y518.1.f_Src 3 0), .int .u8 (List.getD y518.1.f_Dst 0 0), .int .u8 (List.getD y518.1.f_Dst 1 0), .int .u8 (List.getD y518.1.f_Dst 2 0), .int .u8 (List.getD y518.1.f_Dst 3 0), .slice A612 ((h614.set (q617 : Int).toNat (IntKind.u8.wrap (xv626 + 1)))).length c613]) rfl (by rw [← hn631])
                refine RL.nil ?_
                refine KQ.blk_n ?_
                refine KQ.thn hQ623 ?_
                clear hQ623 Q623
                refine KC.region ?_
                refine RL.val (O.move rfl) rfl ?_
                refine RL.val (O.add rfl rfl) rfl ?_
                refine RL.val (O.assign rfl) rfl ?_
                refine RL.nil ?_
                refine KQ.then_k ?_
                exact fun a ha => ⟨k620, Nat.lt_succ_self k620, A612, c613, (h614.set (q617 : Int).toNat (IntKind.u8.wrap (xv626 + 1))), (IntKind.i64.wrap (q617 + 1)), ha.less (less_cons rfl (less_cons rfl (less_cons rfl (less_cons rfl (less_cons rfl (less_cons rfl (less_cons rfl (less_cons rfl (less_cons rfl (less_cons rfl (less_cons rfl (less_cons rfl (less_cons rfl (less_cons rfl less_nil)))))))))))))), hM, hF⟩
              · rw [if_neg (ne_true hc)] at hF
                refine KC.exit ?_
                refine KQ.thx hQ621 ?_
                clear hQ621 Q621
                refine KQ.then_x ?_
                refine KQ.blk_x ?_
                refine KQ.thn hQ572 ?_
                clear hQ572 Q572
                replace hM := hM.pick [0, 1, 2, 5, 6] rfl (by decide)
                refine KC.seqH fun Q632 hQ632 => ?_
                refine KC.seqH fun Q633 hQ633 => ?_
                refine KC.region ?_
                refine RL.val (O.assign rfl) rfl ?_
                refine RL.nil ?_
                refine KQ.thn hQ633 ?_
                clear hQ633 Q633
                refine KC.block ?_
                refine KC.loop (fun k676 a w674 => ∃ (A669 : Option Addr) (c670 : Nat) (xv671 : List Int) (q673 : Int), Kn 145 [(0, .slice A2 (b1).length c3), (3, .slice A18 (y14).length c19), (4, .pointer (some ⟨g26, 0, none⟩)), (5, .int .i64 y22.2.1), (6, .int .i64 y22.2.2), (7, .slice A35 (y31.1).length c36), (8, .int .i64 y31.2), (9, .slice A44 (y40.1).length c45), (10, .int .i64 y40.2), (11, .int .i64 t510), (15, .slice A669 (xv671).length c670), (17, .slice A542 (y538.1).length c543), (20, .int .i64 q673)] a ∧ Mem w [] w674 [.row A18 c19 5 1 (y14).length ((y14).flatMap (eI .u8)), .box g26 41 [.int .u8 y22.1.f_TOS, .int .u16 y22.1.f_Total, .int .u16 y22.1.f_ID, .bool y22.1.f_DF, .bool y22.1.f_MF, .int .u16 y22.1.f_Frag, .int .u8 y22.1.f_TTL, .int .u8 y22.1.f_Proto, .string y22.1.f_Src, .string y22.1.f_Dst, .string y22.1.f_Options], .row A44 c45 5 1 (y40.1).length ((y40.1).flatMap (eI .u8)), .row A669 c670 5 1 (xv671).length ((xv671).flatMap (eI .u8)), .row A542 c543 5 1 (y538.1).length ((y538.1).flatMap (eI .u8))] ∧ F_law05_IpParses_L3 t510 (F_law05_IpParses_L1 b1 y14 y22 y31 y40 k513) y538 k676 xv671 q673 = some r) ?_ ?_
                · exact fun a ha => ⟨fuel0, A534, c535, y530.1, 0, ha.less (less_cons rfl (less_cons rfl (less_cons rfl (less_cons rfl (less_cons rfl (less_cons rfl (less_cons rfl (less_cons rfl (less_cons rfl (less_cons rfl (less_cons rfl (less_cons rfl (less_cons rfl less_nil))))))))))))), hM, hF⟩
                · rintro k676 a w674 ⟨A669, c670, xv671, q673, ha, hM, hF⟩
                  refine KC.app ha ?_
                  clear ha
                  cases k676 with
                  | zero => exact (none_some hF).elim
                  | succ k676 =>
                  have hF : F_law05_IpParses_l3 (F_law05_IpParses_L3 t510 (F_law05_IpParses_L1 b1 y14 y22 y31 y40 k513) y538 k676) t510 (F_law05_IpParses_L1 b1 y14 y22 y31 y40 k513) y538 xv671 q673 = some r := hF
                  unfold F_law05_IpParses_l3 at hF
                  refine KC.seqH fun Q677 hQ677 => ?_
                  refine KC.seqH fun Q678 hQ678 => ?_
                  refine KC.region ?_
                  refine RL.val (O.move rfl) rfl ?_
                  refine RL.val (O.move rfl) rfl ?_
                  refine RL.val (O.len sl22 rfl) rfl ?_
                  refine RL.val (O.lss rfl rfl) rfl ?_
                  refine RL.nil ?_
                  refine KQ.thn hQ678 ?_
                  clear hQ678 Q678
                  refine KC.cond rfl (fun hc => ?_) (fun hc => ?_)
                  · rw [if_pos hc] at hF
                    refine KC.skip ?_
                    refine KQ.thn hQ677 ?_
                    clear hQ677 Q677
                    refine KC.seqH fun Q679 hQ679 => ?_
                    refine KC.block ?_
                    refine KC.region ?_
                    refine RL.val (O.move rfl) rfl ?_
                    refine RL.val (O.move rfl) rfl ?_
                    refine obindE hF fun xv682 hx681 hF => ?_
                    have hA680 := Rd.atN (f := (eI .u8)) (s := 1) (fun _ => rfl) (by decide) (hM.rd (i := 3) rfl) hx681
                    refine RL.val (O.idxA sl22 (hA680) rfl rfl) rfl ?_
                    refine RL.val (O.load sc5 rfl (hA680).cells.at0) rfl ?_
                    refine RL.val (O.add rfl rfl) rfl ?_
                    refine obindE hF fun xv685 hx684 hF => ?_
                    have hA683 := Rd.atN (f := (eI .u8)) (s := 1) (fun _ => rfl) (by decide) (hM.rd (i := 3) rfl) hx684
                    refine RL.val (O.idxA sl22 (hA683) rfl rfl) rfl ?_
                    refine RL.effs (E.stR (enc := (eI .u8)) (j := 3) (off := 0) (vs := [.int .u8 (IntKind.u8.wrap (xv682 + 1))]) (x' := (IntKind.u8.wrap (xv682 + 1))) hM rfl (fun _ => rfl) hx684 sz5 rfl (addsR_eq [] rfl) rfl rfl (One.all rfl) rfl rfl) fun w686 hM1 => ?_
                    clear hM
                    obtain ⟨hM, hn687⟩ := hM1
                    refine RL.reslot (t := 15) rfl hn687 ?_
                    refine RL.reslot (t := 121) rfl hn687 ?_
                    refine RL.nil ?_
                    refine KQ.blk_n ?_
                    refine KQ.thn hQ679 ?_
                    clear hQ679 Q679
                    refine KC.region ?_
                    refine RL.val (O.move rfl) rfl ?_
                    refine RL.val (O.add rfl rfl) rfl ?_
                    refine RL.val (O.assign rfl) rfl ?_
                    refine RL.nil ?_
                    refine KQ.then_k ?_
                    exact fun a ha => ⟨k676, Nat.lt_succ_self k676, A669, c670, (xv671.set (q673 : Int).toNat (IntKind.u8.wrap (xv682 + 1))), (IntKind.i64.wrap (q673 + 1)), ha.less (less_cons rfl (less_cons rfl (less_cons rfl (less_cons rfl (less_cons rfl (less_cons rfl (less_cons rfl (less_cons rfl (less_cons rfl (less_cons rfl (less_cons rfl (less_cons rfl (less_cons rfl less_nil))))))))))))), hM, hF⟩
                  · rw [if_neg (ne_true hc)] at hF
                    refine KC.exit ?_
                    refine KQ.thx hQ677 ?_
                    clear hQ677 Q677
                    refine KQ.then_x ?_
                    refine KQ.blk_x ?_
                    refine KQ.thn hQ632 ?_
                    clear hQ632 Q632
                    replace hM := hM.pick [0, 1, 2, 4] rfl (by decide)
                    refine KC.seqH fun Q688 hQ688 => ?_
                    refine KC.region ?_
                    refine RL.val (O.assign rfl) rfl ?_
                    refine RL.nil ?_
                    refine KQ.thn hQ688 ?_
                    clear hQ688 Q688
                    refine KC.block ?_
                    refine KC.loop (fun k729 a w727 => ∃ (A723 : Option Addr) (c724 : Nat) (y725 : List Int) (q726 : Int), Kn 145 [(0, .slice A2 (b1).length c3), (3, .slice A18 (y14).length c19), (4, .pointer (some ⟨g26, 0, none⟩)), (5, .int .i64 y22.2.1), (6, .int .i64 y22.2.2), (7, .slice A35 (y31.1).length c36), (8, .int .i64 y31.2), (9, .slice A44 (y40.1).length c45), (10, .int .i64 y40.2), (11, .int .i64 t510), (17, .slice A723 (y725).length c724), (21, .int .i64 q726)] a ∧ Mem w [] w727 [.row A18 c19 5 1 (y14).length ((y14).flatMap (eI .u8)), .box g26 41 [.int .u8 y22.1.f_TOS, .int .u16 y22.1.f_Total, .int .u16 y22.1.f_ID, .bool y22.1.f_DF, .bool y22.1.f_MF, .int .u16 y22.1.f_Frag, .int .u8 y22.1.f_TTL, .int .u8 y22.1.f_Proto, .string y22.1.f_Src, .string y22.1.f_Dst, .string y22.1.f_Options], .row A44 c45 5 1 (y40.1).length ((y40.1).flatMap (eI .u8)), .row A723 c724 5 1 (y725).length ((y725).flatMap (eI .u8))] ∧ F_law05_IpParses_L4 t510 (F_law05_IpParses_L1 b1 y14 y22 y31 y40 k513) k729 y725 q726 = some r) ?_ ?_
                    · exact fun a ha => ⟨fuel0, A542, c543, y538.1, 0, ha.less (less_cons rfl (less_cons rfl (less_cons rfl (less_cons rfl (less_cons rfl (less_cons rfl (less_cons rfl (less_cons rfl (less_cons rfl (less_cons rfl (less_cons rfl (less_cons rfl less_nil)))))))))))), hM, hF⟩
                    · rintro k729 a w727 ⟨A723, c724, y725, q726, ha, hM, hF⟩
                      refine KC.app ha ?_
                      clear ha
                      cases k729 with
                      | zero => exact (none_some hF).elim
                      | succ k729 =>
                      have hF : F_law05_IpParses_l4 (F_law05_IpParses_L4 t510 (F_law05_IpParses_L1 b1 y14 y22 y31 y40 k513) k729) t510 (F_law05_IpParses_L1 b1 y14 y22 y31 y40 k513) y725 q726 = some r := hF
                      unfold F_law05_IpParses_l4 at hF
                      refine KC.seqH fun Q730 hQ730 => ?_
                      refine KC.seqH fun Q731 hQ731 => ?_
                      refine KC.region ?_
                      refine RL.val (O.move rfl) rfl ?_
                      refine RL.val (O.move rfl) rfl ?_
                      refine RL.val (O.len sl22 rfl) rfl ?_
                      refine RL.val (O.lss rfl rfl) rfl ?_
                      refine RL.nil ?_
                      refine KQ.thn hQ731 ?_
                      clear hQ731 Q731
                      refine KC.cond rfl (fun hc => ?_) (fun hc => ?_)
                      · rw [if_pos hc] at hF
                        refine KC.skip ?_
                        refine KQ.thn hQ730 ?_
                        clear hQ730 Q730
                        refine KC.seqH fun Q732 hQ732 => ?_
                        refine KC.block ?_
                        refine KC.region ?_
                        refine RL.val (O.move rfl) rfl ?_
                        refine RL.val (O.move rfl) rfl ?_
                        refine obindE hF fun xv735 hx734 hF => ?_
                        have hA733 := Rd.atN (f := (eI .u8)) (s := 1) (fun _ => rfl) (by decide) (hM.rd (i := 3) rfl) hx734
                        refine RL.val (O.idxA sl22 (hA733) rfl rfl) rfl ?_
                        refine RL.val (O.load sc5 rfl (hA733).cells.at0) rfl ?_
                        refine RL.val (O.add rfl rfl) rfl ?_
                        refine obindE hF fun xv738 hx737 hF => ?_
                        have hA736 := Rd.atN (f := (eI .u8)) (s := 1) (fun _ => rfl) (by decide) (hM.rd (i := 3) rfl) hx737
                        refine RL.val (O.idxA sl22 (hA736) rfl rfl) rfl ?_
                        refine RL.effs (E.stR (enc := (eI .u8)) (j := 3) (off := 0) (vs := [.int .u8 (IntKind.u8.wrap (xv735 + 1))]) (x' := (IntKind.u8.wrap (xv735 + 1))) hM rfl (fun _ => rfl) hx737 sz5 rfl (addsR_eq [] rfl) rfl rfl (One.all rfl) rfl rfl) fun w739 hM1 => ?_
                        clear hM
                        obtain ⟨hM, hn740⟩ := hM1
                        refine RL.reslot (t := 17) rfl hn740 ?_
                        refine RL.reslot (t := 133) rfl hn740 ?_
                        refine RL.nil ?_
                        refine KQ.blk_n ?_
                        refine KQ.thn hQ732 ?_
                        clear hQ732 Q732
                        refine KC.region ?_
                        refine RL.val (O.move rfl) rfl ?_
                        refine RL.val (O.add rfl rfl) rfl ?_
                        refine RL.val (O.assign rfl) rfl ?_
                        refine RL.nil ?_
                        refine KQ.then_k ?_
                        exact fun a ha => ⟨k729, Nat.lt_succ_self k729, A723, c724, (y725.set (q726 : Int).toNat (IntKind.u8.wrap (xv735 + 1))), (IntKind.i64.wrap (q726 + 1)), ha.less (less_cons rfl (less_cons rfl (less_cons rfl (less_cons rfl (less_cons rfl (less_cons rfl (less_cons rfl (less_cons rfl (less_cons rfl (less_cons rfl (less_cons rfl (less_cons rfl less_nil)))))))))))), hM, hF⟩
                      · rw [if_neg (ne_true hc)] at hF
                        refine KC.exit ?_
                        refine KQ.thx hQ730 ?_
                        clear hQ730 Q730
                        refine KQ.then_x ?_
                        refine KQ.blk_x ?_
                        refine KQ.blk_n ?_
                        refine KQ.thn hQ516 ?_
                        clear hQ516 Q516
                        replace hM := hM.pick [0, 1, 2] rfl (by decide)
                        refine KC.region ?_
                        refine RL.val (O.move rfl) rfl ?_
                        refine RL.val (O.add rfl rfl) rfl ?_
                        refine RL.val (O.assign rfl) rfl ?_
                        refine RL.nil ?_
                        refine KQ.then_k ?_
                        exact fun a ha => ⟨k513, Nat.lt_succ_self k513, (IntKind.i64.wrap (t510 + 1)), ha.less (less_cons rfl (less_cons rfl (less_cons rfl (less_cons rfl (less_cons rfl (less_cons rfl (less_cons rfl (less_cons rfl (less_cons rfl (less_cons rfl less_nil)))))))))), hM, hF⟩
      · rw [if_neg (ne_true hc)] at hF
        refine KC.exit ?_
        refine KQ.thx hQ514 ?_
        clear hQ514 Q514
        refine KQ.then_x ?_
        refine KQ.blk_x ?_
        refine KQ.thn hQ47 ?_
        clear hQ47 Q47
        replace hM := hM.pick [0] rfl (by decide)
        refine KC.cut (fun a w750 => ∃ (t749 : Bool), Kn 145 [(2, .bool t749)] a ∧ Mem w [] w750 [] ∧ F_law05_IpParses_j2 t749 = some r) ?_ ?_
        · refine KC.region ?_
          refine RL.val (O.move rfl) rfl ?_
          refine RL.val (O.move rfl) rfl ?_
          refine obindE hF fun y741 hx742 hF => ?_
          refine RL.call Try.func14 bd14 rfl rfl (c_ref01_Same _ _ _ b1 (hM.inp hr4 Off.nil) _ _ y14 (hM.rd (i := 0) rfl) _ hx742) fun v w743 hv => ?_
          obtain ⟨rfl, hN744⟩ := hv
          replace hM := hM.call0 hN744
          refine RL.val (O.move rfl) rfl ?_
          refine RL.bcase (t := 142) rfl (fun hc => ?_) (fun hc => ?_)
          · rw [if_pos hc] at hF
            refine obindE hF fun y745 hx746 hF => ?_
            refine RL.gcall rfl rfl Try.func8 bd8 rfl rfl (c_law05_works _ _ hx746) fun v w747 hv => ?_
            obtain ⟨rfl, hN748⟩ := hv
            replace hM := hM.call0 hN748
            refine RL.val (O.pickt rfl rfl) rfl ?_
            refine RL.val (O.assign rfl) rfl ?_
            refine RL.nil ?_
            refine KQ.then_k ?_
            replace hM := hM.pick [] rfl (by decide)
            exact fun a ha => ⟨y745, ha.less (less_cons rfl less_nil), hM, hF⟩
          · rw [if_neg (ne_true hc)] at hF
            refine RL.gskip rfl rfl rfl rfl ?_
            refine RL.val (O.pickf rfl rfl) rfl ?_
            refine RL.val (O.assign rfl) rfl ?_
            refine RL.nil ?_
            refine KQ.then_k ?_
            replace hM := hM.pick [] rfl (by decide)
            exact fun a ha => ⟨false, ha.less (less_cons rfl less_nil), hM, hF⟩
        · rintro a w750 ⟨t749, ha, hM, hF⟩
          refine KC.app ha ?_
          clear ha
          unfold F_law05_IpParses_j2 at hF
          refine KC.ret ?_
          have hE := Option.some.inj hF
          clear hF
          subst hE
          refine KQ.rets Try.results6 (RVs.cons (RV.tm rfl) RVs.nil) ?_
          exact ⟨_, rfl, rfl, hM⟩
end Go.Proofs.Ytjfdfjmnajjjaaa
