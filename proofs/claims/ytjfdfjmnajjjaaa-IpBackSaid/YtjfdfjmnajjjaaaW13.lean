/- Printed by a program of this claim: each call returns what the plain function of its name gives. -/
import Derived.Test.YtjfdfjmnajjjaaaW1
import Derived.Test.YtjfdfjmnajjjaaaW3
import Derived.Test.YtjfdfjmnajjjaaaW5
import Derived.Test.YtjfdfjmnajjjaaaW6
import Derived.Test.YtjfdfjmnajjjaaaW7
import Derived.Test.YtjfdfjmnajjjaaaW9
import Derived.Test.YtjfdfjmnajjjaaaW10
import Derived.Test.YtjfdfjmnajjjaaaW11
import Derived.Test.YtjfdfjmnajjjaaaW12
set_option linter.unusedVariables false
namespace Go.Proofs.Ytjfdfjmnajjjaaa
open Go Go.Ox Go.RowKit
set_option maxRecDepth 100000 in
set_option maxHeartbeats 40000000 in
theorem c_law05_IpBack (w : World) (h1 : T_ip_Header) (A2 : Option Addr) (c3 : Nat) (hr4 : Rd w A2 c3 1 h1.f_Options.length (h1.f_Options.flatMap (eI .u8))) (A6 : Option Addr) (c7 : Nat) (behind5 : List Int) (hr8 : Rd w A6 c7 1 behind5.length (behind5.flatMap (eI .u8))) (atv9 : Int) (byv10 : Int) (r : Bool) (hF : F_law05_IpBack h1 behind5 atv9 byv10 = some r) :
    CallsR Try.prog 5 [.agg #[.int .u8 h1.f_TOS, .int .u16 h1.f_Total, .int .u16 h1.f_ID, .bool h1.f_DF, .bool h1.f_MF, .int .u16 h1.f_Frag, .int .u8 h1.f_TTL, .int .u8 h1.f_Proto, .int .u8 (List.getD h1.f_Src 0 0), .int .u8 (List.getD h1.f_Src 1 0), .int .u8 (List.getD h1.f_Src 2 0), .int .u8 (List.getD h1.f_Src 3 0), .int .u8 (List.getD h1.f_Dst 0 0), .int .u8 (List.getD h1.f_Dst 1 0), .int .u8 (List.getD h1.f_Dst 2 0), .int .u8 (List.getD h1.f_Dst 3 0), .slice A2 (h1.f_Options).length c3], .slice A6 (behind5).length c7, .int .i64 atv9, .int .u8 byv10] w (fun v w' => v = .bool r ∧ Mem w [] w' []) := by
  refine calls_KC Try.func5 rfl Try.ntmps5 rfl ?_
  have hM := Mem.init w
  unfold F_law05_IpBack at hF
  refine KC.seq ?_
  refine KC.region ?_
  refine RL.eff (E.box (vs := [.int .u8 h1.f_TOS, .int .u16 h1.f_Total, .int .u16 h1.f_ID, .bool h1.f_DF, .bool h1.f_MF, .int .u16 h1.f_Frag, .int .u8 h1.f_TTL, .int .u8 h1.f_Proto, .int .u8 (List.getD h1.f_Src 0 0), .int .u8 (List.getD h1.f_Src 1 0), .int .u8 (List.getD h1.f_Src 2 0), .int .u8 (List.getD h1.f_Src 3 0), .int .u8 (List.getD h1.f_Dst 0 0), .int .u8 (List.getD h1.f_Dst 1 0), .int .u8 (List.getD h1.f_Dst 2 0), .int .u8 (List.getD h1.f_Dst 3 0), .slice A2 (h1.f_Options).length c3]) hM rfl rfl) rfl fun v w12 hv => ?_
  clear hM
  obtain ⟨g11, rfl, hM, hf⟩ := hv
  refine RL.val (O.assign rfl) rfl ?_
  refine RL.nil ?_
  refine KQ.then_n ?_
  refine KC.seq ?_
  refine KC.cut (fun a w16 => ∃ (t15 : Bool), Kn 177 [(1, .slice A6 (behind5).length c7), (2, .int .i64 atv9), (3, .int .u8 byv10), (4, .pointer (some ⟨g11, 0, none⟩)), (32, .bool t15)] a ∧ Mem w [] w16 [.box g11 39 [.int .u8 h1.f_TOS, .int .u16 h1.f_Total, .int .u16 h1.f_ID, .bool h1.f_DF, .bool h1.f_MF, .int .u16 h1.f_Frag, .int .u8 h1.f_TTL, .int .u8 h1.f_Proto, .int .u8 (List.getD h1.f_Src 0 0), .int .u8 (List.getD h1.f_Src 1 0), .int .u8 (List.getD h1.f_Src 2 0), .int .u8 (List.getD h1.f_Src 3 0), .int .u8 (List.getD h1.f_Dst 0 0), .int .u8 (List.getD h1.f_Dst 1 0), .int .u8 (List.getD h1.f_Dst 2 0), .int .u8 (List.getD h1.f_Dst 3 0), .slice A2 (h1.f_Options).length c3]] ∧ F_law05_IpBack_j1 h1 behind5 atv9 byv10 t15 = some r) ?_ ?_
  · refine KC.region ?_
    refine RL.val (O.fldA fl39_10 (by decide) rfl) rfl ?_
    refine RL.val (O.load sc22 rfl (Cs.adds [16] ((hM.bx (i := 0) rfl)) rfl)) rfl ?_
    refine RL.val (O.len sl22 rfl) rfl ?_
    refine RL.val (O.gtr rfl rfl) rfl ?_
    refine RL.val (O.move rfl) rfl ?_
    refine RL.bcase (t := 28) rfl (fun hc => ?_) (fun hc => ?_)
    · rw [if_pos hc] at hF
      refine RL.brun1 4 32 true (by kernel_rfl) ?_
      refine RL.nil ?_
      refine KQ.then_k ?_
      exact fun a ha => ⟨true, ha.less (less_cons rfl (less_cons rfl (less_cons rfl (less_cons rfl (less_cons rfl less_nil))))), hM, hF⟩
    · rw [if_neg (ne_true hc)] at hF
      refine RL.gval rfl rfl (O.move rfl) rfl ?_
      refine RL.gval rfl rfl (O.len sl22 rfl) rfl ?_
      refine RL.gval rfl rfl (O.gtr rfl rfl) rfl ?_
      refine RL.val (O.pickf rfl rfl) rfl ?_
      refine RL.nil ?_
      refine KQ.then_k ?_
      exact fun a ha => ⟨(decide (300 < (behind5.length : Int))), ha.less (less_cons rfl (less_cons rfl (less_cons rfl (less_cons rfl (less_cons rfl less_nil))))), hM, hF⟩
  · rintro a w16 ⟨t15, ha, hM, hF⟩
    refine KC.app ha ?_
    clear ha
    unfold F_law05_IpBack_j1 at hF
    refine KC.cond rfl (fun hc => ?_) (fun hc => ?_)
    · rw [if_pos hc] at hF
      refine KC.seq ?_
      refine KC.region ?_
      refine obindE hF fun y17 hx18 hF => ?_
      refine RL.call Try.func8 bd8 rfl rfl (c_law05_works _ _ hx18) fun v w19 hv => ?_
      obtain ⟨rfl, hN20⟩ := hv
      replace hM := hM.call0 hN20
      refine RL.val (O.assign rfl) rfl ?_
      refine RL.nil ?_
      refine KQ.then_n ?_
      refine KC.ret ?_
      refine KQ.then_r ?_
      have hE := Option.some.inj hF
      clear hF
      subst hE
      replace hM := hM.pick [] rfl (by decide)
      refine KQ.rets Try.results5 (RVs.cons (RV.tm rfl) RVs.nil) ?_
      exact ⟨_, rfl, rfl, hM⟩
    · rw [if_neg (ne_true hc)] at hF
      refine KC.skip ?_
      refine KQ.then_n ?_
      refine KC.seq ?_
      refine KC.region ?_
      refine RL.val (O.loadN (cs := [.int .u8 h1.f_TOS, .int .u16 h1.f_Total, .int .u16 h1.f_ID, .bool h1.f_DF, .bool h1.f_MF, .int .u16 h1.f_Frag, .int .u8 h1.f_TTL, .int .u8 h1.f_Proto, .int .u8 (List.getD h1.f_Src 0 0), .int .u8 (List.getD h1.f_Src 1 0), .int .u8 (List.getD h1.f_Src 2 0), .int .u8 (List.getD h1.f_Src 3 0), .int .u8 (List.getD h1.f_Dst 0 0), .int .u8 (List.getD h1.f_Dst 1 0), .int .u8 (List.getD h1.f_Dst 2 0), .int .u8 (List.getD h1.f_Dst 3 0), .slice A2 (h1.f_Options).length c3]) ag39 rfl (Cs.addsN [] ((hM.bx (i := 0) rfl)) rfl)) rfl ?_
      refine obindE hF fun y21 hx22 hF => ?_
      refine RL.call Try.func13 bd13 rfl rfl (c_ip_Put _ h1 _ _ (hM.inp hr4 Off.nil) _ hx22) fun v w23 hv => ?_
      obtain ⟨A25, c26, rfl, hN24⟩ := hv
      replace hM := hM.call hN24
      refine RL.val (O.move rfl) rfl ?_
      refine RL.val (O.ext rfl rfl) rfl ?_
      refine RL.val (O.ext rfl rfl) rfl ?_
      refine RL.val (O.assign rfl) rfl ?_
      refine RL.val (O.assign rfl) rfl ?_
      refine RL.nil ?_
      refine KQ.then_n ?_
      refine KC.seq ?_
      refine KC.seq ?_
      refine KC.region ?_
      refine RL.val (O.move rfl) rfl ?_
      refine RL.val (O.eql rfl rfl) rfl ?_
      refine RL.val (O.loadN (cs := [.int .u8 h1.f_TOS, .int .u16 h1.f_Total, .int .u16 h1.f_ID, .bool h1.f_DF, .bool h1.f_MF, .int .u16 h1.f_Frag, .int .u8 h1.f_TTL, .int .u8 h1.f_Proto, .int .u8 (List.getD h1.f_Src 0 0), .int .u8 (List.getD h1.f_Src 1 0), .int .u8 (List.getD h1.f_Src 2 0), .int .u8 (List.getD h1.f_Src 3 0), .int .u8 (List.getD h1.f_Dst 0 0), .int .u8 (List.getD h1.f_Dst 1 0), .int .u8 (List.getD h1.f_Dst 2 0), .int .u8 (List.getD h1.f_Dst 3 0), .slice A2 (h1.f_Options).length c3]) ag39 rfl (Cs.addsN [] ((hM.bx (i := 0) rfl)) rfl)) rfl ?_
      refine obindE hF fun y28 hx29 hF => ?_
      refine RL.call Try.func15 bd15 rfl rfl (c_ip_Right _ h1 _ _ (hM.inp hr4 Off.nil) _ hx29) fun v w30 hv => ?_
      obtain ⟨rfl, hN31⟩ := hv
      replace hM := hM.call0 hN31
      refine RL.val (O.neqb Try.underlying4 rfl rfl) rfl ?_
      refine RL.nil ?_
      refine KQ.then_n ?_
      refine KC.cond rfl (fun hc => ?_) (fun hc => ?_)
      · rw [if_pos hc] at hF
        refine KC.seq ?_
        refine KC.region ?_
        refine RL.val (O.assign rfl) rfl ?_
        refine RL.nil ?_
        refine KQ.then_n ?_
        refine KC.ret ?_
        refine KQ.then_r ?_
        have hE := Option.some.inj hF
        clear hF
        subst hE
        replace hM := hM.pick [] rfl (by decide)
        refine KQ.rets Try.results5 (RVs.cons (RV.tm rfl) RVs.nil) ?_
        exact ⟨_, rfl, rfl, hM⟩
      · rw [if_neg (ne_true hc)] at hF
        refine KC.skip ?_
        refine KQ.then_n ?_
        refine KC.seq ?_
        refine KC.seq ?_
        refine KC.region ?_
        refine RL.val (O.move rfl) rfl ?_
        refine RL.val (O.neq rfl rfl) rfl ?_
        refine RL.nil ?_
        refine KQ.then_n ?_
        refine KC.cond rfl (fun hc => ?_) (fun hc => ?_)
        · rw [if_pos hc] at hF
          refine KC.seq ?_
          refine KC.region ?_
          refine obindE hF fun y32 hx33 hF => ?_
          refine RL.call Try.func8 bd8 rfl rfl (c_law05_works _ _ hx33) fun v w34 hv => ?_
          obtain ⟨rfl, hN35⟩ := hv
          replace hM := hM.call0 hN35
          refine RL.val (O.assign rfl) rfl ?_
          refine RL.nil ?_
          refine KQ.then_n ?_
          refine KC.ret ?_
          refine KQ.then_r ?_
          have hE := Option.some.inj hF
          clear hF
          subst hE
          replace hM := hM.pick [] rfl (by decide)
          refine KQ.rets Try.results5 (RVs.cons (RV.tm rfl) RVs.nil) ?_
          exact ⟨_, rfl, rfl, hM⟩
        · rw [if_neg (ne_true hc)] at hF
          refine KC.skip ?_
          refine KQ.then_n ?_
          refine KC.seq ?_
          refine KC.region ?_
          refine RL.val (O.move rfl) rfl ?_
          refine RL.val (O.move rfl) rfl ?_
          refine obindE hF fun y36 hx37 hF => ?_
          refine RL.call Try.func18 bd18 rfl rfl (c_ref01_Join _ _ _ y21.1 (hM.rd (i := 1) rfl) _ _ behind5 (hM.inp hr8 Off.nil) _ hx37) fun v w38 hv => ?_
          obtain ⟨A40, c41, rfl, hN39⟩ := hv
          replace hM := hM.call hN39
          refine RL.val (O.assign rfl) rfl ?_
          refine RL.nil ?_
          refine KQ.then_n ?_
          refine KC.seq ?_
          refine KC.region ?_
          refine RL.val (O.move rfl) rfl ?_
          refine obindE hF fun y43 hx44 hF => ?_
          refine RL.call Try.func19 bd19 rfl rfl (c_ip_Parse _ _ _ y36 (hM.rd (i := 2) rfl) _ hx44) fun v w45 hv => ?_
          obtain ⟨A47, c48, rfl, hN46⟩ := hv
          replace hM := hM.call hN46
          refine RL.val (O.move rfl) rfl ?_
          refine RL.val (O.ext rfl rfl) rfl ?_
          refine RL.val (O.ext rfl rfl) rfl ?_
          refine RL.val (O.ext rfl rfl) rfl ?_
          refine RL.eff (E.alloc hM ze39) rfl fun v w51 hv => ?_
          clear hM
          obtain ⟨g50, rfl, hM, hf⟩ := hv
          refine RL.effs (E.stB (j := 4) (off := 0) (vs := [.int .u8 y43.1.f_TOS, .int .u16 y43.1.f_Total, .int .u16 y43.1.f_ID, .bool y43.1.f_DF, .bool y43.1.f_MF, .int .u16 y43.1.f_Frag, .int .u8 y43.1.f_TTL, .int .u8 y43.1.f_Proto, .int .u8 (List.getD y43.1.f_Src 0 0), .int .u8 (List.getD y43.1.f_Src 1 0), .int .u8 (List.getD y43.1.f_Src 2 0), .int .u8 (List.getD y43.1.f_Src 3 0), .int .u8 (List.getD y43.1.f_Dst 0 0), .int .u8 (List.getD y43.1.f_Dst 1 0), .int .u8 (List.getD y43.1.f_Dst 2 0), .int .u8 (List.getD y43.1.f_Dst 3 0), .slice A47 (y43.1.f_Options).length c48]) (cs' := [.int .u8 y43.1.f_TOS, .int .u16 y43.1.f_Total, .int .u16 y43.1.f_ID, .bool y43.1.f_DF, .bool y43.1.f_MF, .int .u16 y43.1.f_Frag, .int .u8 y43.1.f_TTL, .int .u8 y43.1.f_Proto, .int .u8 (List.getD y43.1.f_Src 0 0), .int .u8 (List.getD y43.1.f_Src 1 0), .int .u8 (List.getD y43.1.f_Src 2 0), .int .u8 (List.getD y43.1.f_Src 3 0), .int .u8 (List.getD y43.1.f_Dst 0 0), .int .u8 (List.getD y43.1.f_Dst 1 0), .int .u8 (List.getD y43.1.f_Dst 2 0), .int .u8 (List.getD y43.1.f_Dst 3 0), .slice A47 (y43.1.f_Options).length c48]) hM rfl sz39 rfl (adds_eq [] rfl) rfl rfl (One.all rfl) rfl rfl) fun w53 hM1 => ?_
          clear hM
          have hM := hM1
          clear hM1
          refine RL.val (O.assign rfl) rfl ?_
          refine RL.val (O.assign rfl) rfl ?_
          refine RL.nil ?_
          refine KQ.then_n ?_
          refine KC.seq ?_
          refine KC.cut (fun a w62 => ∃ (t61 : Bool), Kn 177 [(1, .slice A6 (behind5).length c7), (2, .int .i64 atv9), (3, .int .u8 byv10), (4, .pointer (some ⟨g11, 0, none⟩)), (9, .slice A25 (y21.1).length c26), (11, .slice A40 (y36).length c41), (13, .int .i64 y43.2.1), (69, .bool t61)] a ∧ Mem w [] w62 [.box g11 39 [.int .u8 h1.f_TOS, .int .u16 h1.f_Total, .int .u16 h1.f_ID, .bool h1.f_DF, .bool h1.f_MF, .int .u16 h1.f_Frag, .int .u8 h1.f_TTL, .int .u8 h1.f_Proto, .int .u8 (List.getD h1.f_Src 0 0), .int .u8 (List.getD h1.f_Src 1 0), .int .u8 (List.getD h1.f_Src 2 0), .int .u8 (List.getD h1.f_Src 3 0), .int .u8 (List.getD h1.f_Dst 0 0), .int .u8 (List.getD h1.f_Dst 1 0), .int .u8 (List.getD h1.f_Dst 2 0), .int .u8 (List.getD h1.f_Dst 3 0), .slice A2 (h1.f_Options).length c3], .row A25 c26 5 1 (y21.1).length ((y21.1).flatMap (eI .u8)), .row A40 c41 5 1 (y36).length ((y36).flatMap (eI .u8))] ∧ F_law05_IpBack_j2 h1 behind5 atv9 byv10 y21 y36 y43 t61 = some r) ?_ ?_
          · refine KC.region ?_
            refine RL.val (O.move rfl) rfl ?_
            refine RL.val (O.neq rfl rfl) rfl ?_
            refine RL.val (O.move rfl) rfl ?_
            refine RL.bcase (t := 58) rfl (fun hc => ?_) (fun hc => ?_)
            · rw [if_pos hc] at hF
              refine RL.brun1 11 69 true (by kernel_rfl) ?_
              refine RL.nil ?_
              refine KQ.then_k ?_
              replace hM := hM.pick [0, 1, 2] rfl (by decide)
              exact fun a ha => ⟨true, ha.less (less_cons rfl (less_cons rfl (less_cons rfl (less_cons rfl (less_cons rfl (less_cons rfl (less_cons rfl (less_cons rfl less_nil)))))))), hM, hF⟩
            · rw [if_neg (ne_true hc)] at hF
              refine RL.gval rfl rfl (O.move rfl) rfl ?_
              refine RL.gval rfl rfl (O.move rfl) rfl ?_
              refine RL.gval rfl rfl (O.len sl22 rfl) rfl ?_
              refine RL.gval rfl rfl (O.neq rfl rfl) rfl ?_
              refine RL.val (O.pickf rfl rfl) rfl ?_
              refine RL.val (O.move rfl) rfl ?_
              refine RL.bcase (t := 64) rfl (fun hc => ?_) (fun hc => ?_)
              · rw [if_pos hc] at hF
                refine RL.brun1 5 69 true (by kernel_rfl) ?_
                refine RL.nil ?_
                refine KQ.then_k ?_
                replace hM := hM.pick [0, 1, 2] rfl (by decide)
                exact fun a ha => ⟨true, ha.less (less_cons rfl (less_cons rfl (less_cons rfl (less_cons rfl (less_cons rfl (less_cons rfl (less_cons rfl (less_cons rfl less_nil)))))))), hM, hF⟩
              · rw [if_neg (ne_true hc)] at hF
                refine RL.gval rfl rfl (O.loadN (cs := [.int .u8 y43.1.f_TOS, .int .u16 y43.1.f_Total, .int .u16 y43.1.f_ID, .bool y43.1.f_DF, .bool y43.1.f_MF, .int .u16 y43.1.f_Frag, .int .u8 y43.1.f_TTL, .int .u8 y43.1.f_Proto, .int .u8 (List.getD y43.1.f_Src 0 0), .int .u8 (List.getD y43.1.f_Src 1 0), .int .u8 (List.getD y43.1.f_Src 2 0), .int .u8 (List.getD y43.1.f_Src 3 0), .int .u8 (List.getD y43.1.f_Dst 0 0), .int .u8 (List.getD y43.1.f_Dst 1 0), .int .u8 (List.getD y43.1.f_Dst 2 0), .int .u8 (List.getD y43.1.f_Dst 3 0), .slice A47 (y43.1.f_Options).length c48]) ag39 rfl (Cs.addsN [] ((hM.bx (i := 4) rfl)) rfl)) rfl ?_
                refine RL.gval rfl rfl (O.loadN (cs := [.int .u8 h1.f_TOS, .int .u16 h1.f_Total, .int .u16 h1.f_ID, .bool h1.f_DF, .bool h1.f_MF, .int .u16 h1.f_Frag, .int .u8 h1.f_TTL, .int .u8 h1.f_Proto, .int .u8 (List.getD h1.f_Src 0 0), .int .u8 (List.getD h1.f_Src 1 0), .int .u8 (List.getD h1.f_Src 2 0), .int .u8 (List.getD h1.f_Src 3 0), .int .u8 (List.getD h1.f_Dst 0 0), .int .u8 (List.getD h1.f_Dst 1 0), .int .u8 (List.getD h1.f_Dst 2 0), .int .u8 (List.getD h1.f_Dst 3 0), .slice A2 (h1.f_Options).length c3]) ag39 rfl (Cs.addsN [] ((hM.bx (i := 0) rfl)) rfl)) rfl ?_
                refine obindE hF fun y54 hx55 hF => ?_
                refine RL.gcall rfl rfl Try.func17 bd17 rfl rfl (c_ip_Same _ y43.1 _ _ (hM.rd (i := 3) rfl) h1 _ _ (hM.inp hr4 Off.nil) _ hx55) fun v w56 hv => ?_
                obtain ⟨rfl, hN57⟩ := hv
                replace hM := hM.call0 hN57
                refine RL.gval rfl rfl (O.not rfl) rfl ?_
                refine RL.val (O.pickf rfl rfl) rfl ?_
                refine RL.nil ?_
                refine KQ.then_k ?_
                replace hM := hM.pick [0, 1, 2] rfl (by decide)
                exact fun a ha => ⟨(!y54), ha.less (less_cons rfl (less_cons rfl (less_cons rfl (less_cons rfl (less_cons rfl (less_cons rfl (less_cons rfl (less_cons rfl less_nil)))))))), hM, hF⟩
          · rintro a w62 ⟨t61, ha, hM, hF⟩
            refine KC.app ha ?_
            clear ha
            unfold F_law05_IpBack_j2 at hF
            refine KC.cond rfl (fun hc => ?_) (fun hc => ?_)
            · rw [if_pos hc] at hF
              refine KC.seq ?_
              refine KC.region ?_
              refine RL.val (O.assign rfl) rfl ?_
              refine RL.nil ?_
              refine KQ.then_n ?_
              refine KC.ret ?_
              refine KQ.then_r ?_
              have hE := Option.some.inj hF
              clear hF
              subst hE
              replace hM := hM.pick [] rfl (by decide)
              refine KQ.rets Try.results5 (RVs.cons (RV.tm rfl) RVs.nil) ?_
              exact ⟨_, rfl, rfl, hM⟩
            · rw [if_neg (ne_true hc)] at hF
              refine KC.skip ?_
              refine KQ.then_n ?_
              refine KC.seq ?_
              refine KC.region ?_
              refine RL.val (O.move rfl) rfl ?_
              refine obindE hF fun y63 hx64 hF => ?_
              refine RL.call Try.func18 bd18 rfl rfl (c_ref01_Join _ none 0 [] Rd.nilr _ _ y21.1 (hM.rd (i := 1) rfl) _ hx64) fun v w65 hv => ?_
              obtain ⟨A67, c68, rfl, hN66⟩ := hv
              replace hM := hM.call hN66
              refine RL.val (O.assign rfl) rfl ?_
              refine RL.nil ?_
              refine KQ.then_n ?_
              replace hM := hM.pick [0, 2, 3] rfl (by decide)
              refine KC.seq ?_
              refine KC.region ?_
              refine RL.val (O.move rfl) rfl ?_
              refine RL.val (O.move rfl) rfl ?_
              refine RL.val (O.len sl22 rfl) rfl ?_
              refine RL.val (O.max2 rfl rfl) rfl ?_
              refine obindE hF fun y70 hx71 hF => ?_
              refine RL.call Try.func20 bd20 rfl rfl (c_kit_Pick _ atv9 (gmax 1 (y63.length : Int)) _ hx71) fun v w72 hv => ?_
              obtain ⟨rfl, hN73⟩ := hv
              replace hM := hM.call0 hN73
              refine RL.val (O.assign rfl) rfl ?_
              refine RL.nil ?_
              refine KQ.then_n ?_
              refine KC.seq ?_
              refine KC.region ?_
              refine RL.val (O.move rfl) rfl ?_
              refine RL.val (O.move rfl) rfl ?_
              refine RL.val (O.move rfl) rfl ?_
              refine RL.val (O.move rfl) rfl ?_
              refine obindE hF fun xv76 hx75 hF => ?_
              have hA74 := Rd.atN (f := (eI .u8)) (s := 1) (fun _ => rfl) (by decide) (hM.rd (i := 2) rfl) hx75
              refine RL.val (O.idxA sl22 (hA74) rfl rfl) rfl ?_
              refine RL.val (O.load sc5 rfl (hA74).cells.at0) rfl ?_
              refine RL.val (O.move rfl) rfl ?_
              refine RL.val (O.add rfl rfl) rfl ?_
              refine obindE hF fun xv79 hx78 hF => ?_
              have hA77 := Rd.atN (f := (eI .u8)) (s := 1) (fun _ => rfl) (by decide) (hM.rd (i := 2) rfl) hx78
              refine RL.val (O.idxA sl22 (hA77) rfl rfl) rfl ?_
              refine RL.effs (E.stR (enc := (eI .u8)) (j := 2) (off := 0) (vs := [.int .u8 (IntKind.u8.wrap (xv76 + byv10))]) (x' := (IntKind.u8.wrap (xv76 + byv10))) hM rfl (fun _ => rfl) hx78 sz5 rfl (addsR_eq [] rfl) rfl rfl (One.all rfl) rfl rfl) fun w80 hM1 => ?_
              clear hM
              obtain ⟨hM, hn81⟩ := hM1
              refine RL.reslot (t := 15) rfl hn81 ?_
              refine RL.reslot (t := 77) rfl hn81 ?_
              refine RL.reslot (t := 79) rfl hn81 ?_
              refine RL.nil ?_
              refine KQ.then_n ?_
              refine KC.seq ?_
              refine KC.region ?_
              refine RL.val (O.move rfl) rfl ?_
              refine obindE hF fun y82 hx83 hF => ?_
              refine RL.call Try.func19 bd19 rfl rfl (c_ip_Parse _ _ _ (y63.set (y70 : Int).toNat (IntKind.u8.wrap (xv76 + byv10))) (hM.rd (i := 2) rfl) _ hx83) fun v w84 hv => ?_
              obtain ⟨A86, c87, rfl, hN85⟩ := hv
              replace hM := hM.call hN85
              refine RL.val (O.move rfl) rfl ?_
              refine RL.val (O.ext rfl rfl) rfl ?_
              refine RL.val (O.ext rfl rfl) rfl ?_
              refine RL.val (O.ext rfl rfl) rfl ?_
              refine RL.eff (E.alloc hM ze39) rfl fun v w90 hv => ?_
              clear hM
              obtain ⟨g89, rfl, hM, hf⟩ := hv
              refine RL.effs (E.stB (j := 4) (off := 0) (vs := [.int .u8 y82.1.f_TOS, .int .u16 y82.1.f_Total, .int .u16 y82.1.f_ID, .bool y82.1.f_DF, .bool y82.1.f_MF, .int .u16 y82.1.f_Frag, .int .u8 y82.1.f_TTL, .int .u8 y82.1.f_Proto, .int .u8 (List.getD y82.1.f_Src 0 0), .int .u8 (List.getD y82.1.f_Src 1 0), .int .u8 (List.getD y82.1.f_Src 2 0), .int .u8 (List.getD y82.1.f_Src 3 0), .int .u8 (List.getD y82.1.f_Dst 0 0), .int .u8 (List.getD y82.1.f_Dst 1 0), .int .u8 (List.getD y82.1.f_Dst 2 0), .int .u8 (List.getD y82.1.f_Dst 3 0), .slice A86 (y82.1.f_Options).length c87]) (cs' := [.int .u8 y82.1.f_TOS, .int .u16 y82.1.f_Total, .int .u16 y82.1.f_ID, .bool y82.1.f_DF, .bool y82.1.f_MF, .int .u16 y82.1.f_Frag, .int .u8 y82.1.f_TTL, .int .u8 y82.1.f_Proto, .int .u8 (List.getD y82.1.f_Src 0 0), .int .u8 (List.getD y82.1.f_Src 1 0), .int .u8 (List.getD y82.1.f_Src 2 0), .int .u8 (List.getD y82.1.f_Src 3 0), .int .u8 (List.getD y82.1.f_Dst 0 0), .int .u8 (List.getD y82.1.f_Dst 1 0), .int .u8 (List.getD y82.1.f_Dst 2 0), .int .u8 (List.getD y82.1.f_Dst 3 0), .slice A86 (y82.1.f_Options).length c87]) hM rfl sz39 rfl (adds_eq [] rfl) rfl rfl (One.all rfl) rfl rfl) fun w92 hM1 => ?_
              clear hM
              have hM := hM1
              clear hM1
              refine RL.val (O.assign rfl) rfl ?_
              refine RL.val (O.assign rfl) rfl ?_
              refine RL.nil ?_
              refine KQ.then_n ?_
              replace hM := hM.pick [0, 1, 3, 4] rfl (by decide)
              refine KC.seq ?_
              refine KC.cut (fun a w100 => ∃ (t99 : Bool), Kn 177 [(1, .slice A6 (behind5).length c7), (4, .pointer (some ⟨g11, 0, none⟩)), (11, .slice A40 (y36).length c41), (13, .int .i64 y43.2.1), (110, .bool t99)] a ∧ Mem w [] w100 [.box g11 39 [.int .u8 h1.f_TOS, .int .u16 h1.f_Total, .int .u16 h1.f_ID, .bool h1.f_DF, .bool h1.f_MF, .int .u16 h1.f_Frag, .int .u8 h1.f_TTL, .int .u8 h1.f_Proto, .int .u8 (List.getD h1.f_Src 0 0), .int .u8 (List.getD h1.f_Src 1 0), .int .u8 (List.getD h1.f_Src 2 0), .int .u8 (List.getD h1.f_Src 3 0), .int .u8 (List.getD h1.f_Dst 0 0), .int .u8 (List.getD h1.f_Dst 1 0), .int .u8 (List.getD h1.f_Dst 2 0), .int .u8 (List.getD h1.f_Dst 3 0), .slice A2 (h1.f_Options).length c3], .row A40 c41 5 1 (y36).length ((y36).flatMap (eI .u8))] ∧ F_law05_IpBack_j3 h1 behind5 y36 y43 t99 = some r) ?_ ?_
              · refine KC.region ?_
                refine RL.val (O.move rfl) rfl ?_
                refine RL.val (O.gtr rfl rfl) rfl ?_
                refine RL.val (O.move rfl) rfl ?_
                refine RL.bcase (t := 94) rfl (fun hc => ?_) (fun hc => ?_)
                · rw [if_pos hc] at hF
                  refine RL.gval rfl rfl (O.move rfl) rfl ?_
                  refine RL.gval rfl rfl (O.neq rfl rfl) rfl ?_
                  refine RL.val (O.pickt rfl rfl) rfl ?_
                  refine RL.val (O.move rfl) rfl ?_
                  refine RL.bcase (t := 98) rfl (fun hc => ?_) (fun hc => ?_)
                  · rw [if_pos hc] at hF
                    refine RL.gval rfl rfl (O.move rfl) rfl ?_
                    refine RL.gval rfl rfl (O.neq rfl rfl) rfl ?_
                    refine RL.val (O.pickt rfl rfl) rfl ?_
                    refine RL.val (O.move rfl) rfl ?_
                    refine RL.bcase (t := 102) rfl (fun hc => ?_) (fun hc => ?_)
                    · rw [if_pos hc] at hF
                      refine RL.gval rfl rfl (O.move rfl) rfl ?_
                      refine RL.gval rfl rfl (O.eql rfl rfl) rfl ?_
                      refine RL.val (O.pickt rfl rfl) rfl ?_
                      refine RL.val (O.move rfl) rfl ?_
                      refine RL.bcase (t := 106) rfl (fun hc => ?_) (fun hc => ?_)
                      · rw [if_pos hc] at hF
                        refine RL.gval rfl rfl (O.loadN (cs := [.int .u8 y82.1.f_TOS, .int .u16 y82.1.f_Total, .int .u16 y82.1.f_ID, .bool y82.1.f_DF, .bool y82.1.f_MF, .int .u16 y82.1.f_Frag, .int .u8 y82.1.f_TTL, .int .u8 y82.1.f_Proto, .int .u8 (List.getD y82.1.f_Src 0 0), .int .u8 (List.getD y82.1.f_Src 1 0), .int .u8 (List.getD y82.1.f_Src 2 0), .int .u8 (List.getD y82.1.f_Src 3 0), .int .u8 (List.getD y82.1.f_Dst 0 0), .int .u8 (List.getD y82.1.f_Dst 1 0), .int .u8 (List.getD y82.1.f_Dst 2 0), .int .u8 (List.getD y82.1.f_Dst 3 0), .slice A86 (y82.1.f_Options).length c87]) ag39 rfl (Cs.addsN [] ((hM.bx (i := 3) rfl)) rfl)) rfl ?_
                        refine RL.gval rfl rfl (O.loadN (cs := [.int .u8 h1.f_TOS, .int .u16 h1.f_Total, .int .u16 h1.f_ID, .bool h1.f_DF, .bool h1.f_MF, .int .u16 h1.f_Frag, .int .u8 h1.f_TTL, .int .u8 h1.f_Proto, .int .u8 (List.getD h1.f_Src 0 0), .int .u8 (List.getD h1.f_Src 1 0), .int .u8 (List.getD h1.f_Src 2 0), .int .u8 (List.getD h1.f_Src 3 0), .int .u8 (List.getD h1.f_Dst 0 0), .int .u8 (List.getD h1.f_Dst 1 0), .int .u8 (List.getD h1.f_Dst 2 0), .int .u8 (List.getD h1.f_Dst 3 0), .slice A2 (h1.f_Options).length c3]) ag39 rfl (Cs.addsN [] ((hM.bx (i := 0) rfl)) rfl)) rfl ?_
                        refine obindE hF fun y93 hx94 hF => ?_
                        refine RL.gcall rfl rfl Try.func17 bd17 rfl rfl (c_ip_Same _ y82.1 _ _ (hM.rd (i := 2) rfl) h1 _ _ (hM.inp hr4 Off.nil) _ hx94) fun v w95 hv => ?_
                        obtain ⟨rfl, hN96⟩ := hv
                        replace hM := hM.call0 hN96
                        refine RL.val (O.pickt rfl rfl) rfl ?_
                        refine RL.nil ?_
                        refine KQ.then_k ?_
                        replace hM := hM.pick [0, 1] rfl (by decide)
                        exact fun a ha => ⟨y93, ha.less (less_cons rfl (less_cons rfl (less_cons rfl (less_cons rfl (less_cons rfl less_nil))))), hM, hF⟩
                      · rw [if_neg (ne_true hc)] at hF
                        refine RL.brun1 4 110 false (by kernel_rfl) ?_
                        refine RL.nil ?_
                        refine KQ.then_k ?_
                        replace hM := hM.pick [0, 1] rfl (by decide)
                        exact fun a ha => ⟨false, ha.less (less_cons rfl (less_cons rfl (less_cons rfl (less_cons rfl (less_cons rfl less_nil))))), hM, hF⟩
                    · rw [if_neg (ne_true hc)] at hF
                      refine RL.brun1 8 110 false (by kernel_rfl) ?_
                      refine RL.nil ?_
                      refine KQ.then_k ?_
                      replace hM := hM.pick [0, 1] rfl (by decide)
                      exact fun a ha => ⟨false, ha.less (less_cons rfl (less_cons rfl (less_cons rfl (less_cons rfl (less_cons rfl less_nil))))), hM, hF⟩
                  · rw [if_neg (ne_true hc)] at hF
                    refine RL.brun1 12 110 false (by kernel_rfl) ?_
                    refine RL.nil ?_
                    refine KQ.then_k ?_
                    replace hM := hM.pick [0, 1] rfl (by decide)
                    exact fun a ha => ⟨false, ha.less (less_cons rfl (less_cons rfl (less_cons rfl (less_cons rfl (less_cons rfl less_nil))))), hM, hF⟩
                · rw [if_neg (ne_true hc)] at hF
                  refine RL.brun1 16 110 false (by kernel_rfl) ?_
                  refine RL.nil ?_
                  refine KQ.then_k ?_
                  replace hM := hM.pick [0, 1] rfl (by decide)
                  exact fun a ha => ⟨false, ha.less (less_cons rfl (less_cons rfl (less_cons rfl (less_cons rfl (less_cons rfl less_nil))))), hM, hF⟩
              · rintro a w100 ⟨t99, ha, hM, hF⟩
                refine KC.app ha ?_
                clear ha
                unfold F_law05_IpBack_j3 at hF
                refine KC.cond rfl (fun hc => ?_) (fun hc => ?_)
                · rw [if_pos hc] at hF
                  refine KC.seq ?_
                  refine KC.region ?_
                  refine RL.val (O.assign rfl) rfl ?_
                  refine RL.nil ?_
                  refine KQ.then_n ?_
                  refine KC.ret ?_
                  refine KQ.then_r ?_
                  have hE := Option.some.inj hF
                  clear hF
                  subst hE
                  replace hM := hM.pick [] rfl (by decide)
                  refine KQ.rets Try.results5 (RVs.cons (RV.tm rfl) RVs.nil) ?_
                  exact ⟨_, rfl, rfl, hM⟩
                · rw [if_neg (ne_true hc)] at hF
                  refine KC.skip ?_
                  refine KQ.then_n ?_
                  refine KC.seq ?_
                  refine KC.region ?_
                  refine RL.val (O.move rfl) rfl ?_
                  refine obindE hF fun y101 hx102 hF => ?_
                  refine RL.call Try.func21 bd21 rfl rfl (c_ip_Hop _ _ _ y36 (hM.rd (i := 1) rfl) _ hx102) fun v w103 hv => ?_
                  obtain ⟨A105, c106, rfl, hN104⟩ := hv
                  replace hM := hM.call hN104
                  refine RL.val (O.move rfl) rfl ?_
                  refine RL.val (O.ext rfl rfl) rfl ?_
                  refine RL.val (O.ext rfl rfl) rfl ?_
                  refine RL.val (O.assign rfl) rfl ?_
                  refine RL.val (O.assign rfl) rfl ?_
                  refine RL.nil ?_
                  refine KQ.then_n ?_
                  refine KC.seq ?_
                  refine KC.seq ?_
                  refine KC.region ?_
                  refine RL.val (O.fldA fl39_6 (by decide) rfl) rfl ?_
                  refine RL.val (O.load sc5 rfl (Cs.adds [6] ((hM.bx (i := 0) rfl)) rfl)) rfl ?_
                  refine RL.val (O.eql rfl rfl) rfl ?_
                  refine RL.nil ?_
                  refine KQ.then_n ?_
                  refine KC.cond rfl (fun hc => ?_) (fun hc => ?_)
                  · rw [if_pos hc] at hF
                    refine KC.cut (fun a w113 => ∃ (t112 : Bool), Kn 177 [(8, .bool t112)] a ∧ Mem w [] w113 [] ∧ F_law05_IpBack_j4 t112 = some r) ?_ ?_
                    · refine KC.region ?_
                      refine RL.val (O.move rfl) rfl ?_
                      refine RL.val (O.eql rfl rfl) rfl ?_
                      refine RL.val (O.move rfl) rfl ?_
                      refine RL.bcase (t := 121) rfl (fun hc => ?_) (fun hc => ?_)
                      · rw [if_pos hc] at hF
                        refine obindE hF fun y108 hx109 hF => ?_
                        refine RL.gcall rfl rfl Try.func8 bd8 rfl rfl (c_law05_works _ _ hx109) fun v w110 hv => ?_
                        obtain ⟨rfl, hN111⟩ := hv
                        replace hM := hM.call0 hN111
                        refine RL.val (O.pickt rfl rfl) rfl ?_
                        refine RL.val (O.assign rfl) rfl ?_
                        refine RL.nil ?_
                        refine KQ.then_k ?_
                        replace hM := hM.pick [] rfl (by decide)
                        exact fun a ha => ⟨y108, ha.less (less_cons rfl less_nil), hM, hF⟩
                      · rw [if_neg (ne_true hc)] at hF
                        refine RL.gskip rfl rfl rfl rfl ?_
                        refine RL.val (O.pickf rfl rfl) rfl ?_
                        refine RL.val (O.assign rfl) rfl ?_
                        refine RL.nil ?_
                        refine KQ.then_k ?_
                        replace hM := hM.pick [] rfl (by decide)
                        exact fun a ha => ⟨false, ha.less (less_cons rfl less_nil), hM, hF⟩
                    · rintro a w113 ⟨t112, ha, hM, hF⟩
                      refine KC.app ha ?_
                      clear ha
                      unfold F_law05_IpBack_j4 at hF
                      refine KC.ret ?_
                      refine KQ.then_r ?_
                      have hE := Option.some.inj hF
                      clear hF
                      subst hE
                      refine KQ.rets Try.results5 (RVs.cons (RV.tm rfl) RVs.nil) ?_
                      exact ⟨_, rfl, rfl, hM⟩
                  · rw [if_neg (ne_true hc)] at hF
                    refine KC.skip ?_
                    refine KQ.then_n ?_
                    refine KC.seq ?_
                    refine KC.region ?_
                    refine RL.val (O.move rfl) rfl ?_
                    refine obindE hF fun y114 hx115 hF => ?_
                    refine RL.call Try.func19 bd19 rfl rfl (c_ip_Parse _ _ _ y101.1 (hM.rd (i := 2) rfl) _ hx115) fun v w116 hv => ?_
                    obtain ⟨A118, c119, rfl, hN117⟩ := hv
                    replace hM := hM.call hN117
                    refine RL.val (O.move rfl) rfl ?_
                    refine RL.val (O.ext rfl rfl) rfl ?_
                    refine RL.val (O.ext rfl rfl) rfl ?_
                    refine RL.val (O.ext rfl rfl) rfl ?_
                    refine RL.eff (E.alloc hM ze39) rfl fun v w122 hv => ?_
                    clear hM
                    obtain ⟨g121, rfl, hM, hf⟩ := hv
                    refine RL.effs (E.stB (j := 4) (off := 0) (vs := [.int .u8 y114.1.f_TOS, .int .u16 y114.1.f_Total, .int .u16 y114.1.f_ID, .bool y114.1.f_DF, .bool y114.1.f_MF, .int .u16 y114.1.f_Frag, .int .u8 y114.1.f_TTL, .int .u8 y114.1.f_Proto, .int .u8 (List.getD y114.1.f_Src 0 0), .int .u8 (List.getD y114.1.f_Src 1 0), .int .u8 (List.getD y114.1.f_Src 2 0), .int .u8 (List.getD y114.1.f_Src 3 0), .int .u8 (List.getD y114.1.f_Dst 0 0), .int .u8 (List.getD y114.1.f_Dst 1 0), .int .u8 (List.getD y114.1.f_Dst 2 0), .int .u8 (List.getD y114.1.f_Dst 3 0), .slice A118 (y114.1.f_Options).length c119]) (cs' := [.int .u8 y114.1.f_TOS, .int .u16 y114.1.f_Total, .int .u16 y114.1.f_ID, .bool y114.1.f_DF, .bool y114.1.f_MF, .int .u16 y114.1.f_Frag, .int .u8 y114.1.f_TTL, .int .u8 y114.1.f_Proto, .int .u8 (List.getD y114.1.f_Src 0 0), .int .u8 (List.getD y114.1.f_Src 1 0), .int .u8 (List.getD y114.1.f_Src 2 0), .int .u8 (List.getD y114.1.f_Src 3 0), .int .u8 (List.getD y114.1.f_Dst 0 0), .int .u8 (List.getD y114.1.f_Dst 1 0), .int .u8 (List.getD y114.1.f_Dst 2 0), .int .u8 (List.getD y114.1.f_Dst 3 0), .slice A118 (y114.1.f_Options).length c119]) hM rfl sz39 rfl (adds_eq [] rfl) rfl rfl (One.all rfl) rfl rfl) fun w124 hM1 => ?_
                    clear hM
                    have hM := hM1
                    clear hM1
                    refine RL.val (O.assign rfl) rfl ?_
                    refine RL.val (O.assign rfl) rfl ?_
                    refine RL.nil ?_
                    refine KQ.then_n ?_
                    refine KC.seq ?_
                    refine KC.cut (fun a w134 => ∃ (t133 : Bool), Kn 177 [(1, .slice A6 (behind5).length c7), (4, .pointer (some ⟨g11, 0, none⟩)), (13, .int .i64 y43.2.1), (19, .slice A105 (y101.1).length c106), (21, .pointer (some ⟨g121, 0, none⟩)), (160, .bool t133)] a ∧ Mem w [] w134 [.box g11 39 [.int .u8 h1.f_TOS, .int .u16 h1.f_Total, .int .u16 h1.f_ID, .bool h1.f_DF, .bool h1.f_MF, .int .u16 h1.f_Frag, .int .u8 h1.f_TTL, .int .u8 h1.f_Proto, .int .u8 (List.getD h1.f_Src 0 0), .int .u8 (List.getD h1.f_Src 1 0), .int .u8 (List.getD h1.f_Src 2 0), .int .u8 (List.getD h1.f_Src 3 0), .int .u8 (List.getD h1.f_Dst 0 0), .int .u8 (List.getD h1.f_Dst 1 0), .int .u8 (List.getD h1.f_Dst 2 0), .int .u8 (List.getD h1.f_Dst 3 0), .slice A2 (h1.f_Options).length c3], .row A105 c106 5 1 (y101.1).length ((y101.1).flatMap (eI .u8)), .row A118 c119 5 1 (y114.1.f_Options).length ((y114.1.f_Options).flatMap (eI .u8)), .box g121 39 [.int .u8 y114.1.f_TOS, .int .u16 y114.1.f_Total, .int .u16 y114.1.f_ID, .bool y114.1.f_DF, .bool y114.1.f_MF, .int .u16 y114.1.f_Frag, .int .u8 y114.1.f_TTL, .int .u8 y114.1.f_Proto, .int .u8 (List.getD y114.1.f_Src 0 0), .int .u8 (List.getD y114.1.f_Src 1 0), .int .u8 (List.getD y114.1.f_Src 2 0), .int .u8 (List.getD y114.1.f_Src 3 0), .int .u8 (List.getD y114.1.f_Dst 0 0), .int .u8 (List.getD y114.1.f_Dst 1 0), .int .u8 (List.getD y114.1.f_Dst 2 0), .int .u8 (List.getD y114.1.f_Dst 3 0), .slice A118 (y114.1.f_Options).length c119]] ∧ F_law05_IpBack_j5 h1 behind5 y43 y101 y114 t133 = some r) ?_ ?_
                    · refine KC.region ?_
                      refine RL.val (O.move rfl) rfl ?_
                      refine RL.val (O.neq rfl rfl) rfl ?_
                      refine RL.val (O.move rfl) rfl ?_
                      refine RL.bcase (t := 132) rfl (fun hc => ?_) (fun hc => ?_)
                      · rw [if_pos hc] at hF
                        refine RL.brun1 28 160 true (by kernel_rfl) ?_
                        refine RL.nil ?_
                        refine KQ.then_k ?_
                        replace hM := hM.pick [0, 2, 3, 4] rfl (by decide)
                        exact fun a ha => ⟨true, ha.less (less_cons rfl (less_cons rfl (less_cons rfl (less_cons rfl (less_cons rfl (less_cons rfl less_nil)))))), hM, hF⟩
                      · rw [if_neg (ne_true hc)] at hF
                        refine RL.gval rfl rfl (O.move rfl) rfl ?_
                        refine RL.gval rfl rfl (O.neq rfl rfl) rfl ?_
                        refine RL.val (O.pickf rfl rfl) rfl ?_
                        refine RL.val (O.move rfl) rfl ?_
                        refine RL.bcase (t := 136) rfl (fun hc => ?_) (fun hc => ?_)
                        · rw [if_pos hc] at hF
                          refine RL.brun1 24 160 true (by kernel_rfl) ?_
                          refine RL.nil ?_
                          refine KQ.then_k ?_
                          replace hM := hM.pick [0, 2, 3, 4] rfl (by decide)
                          exact fun a ha => ⟨true, ha.less (less_cons rfl (less_cons rfl (less_cons rfl (less_cons rfl (less_cons rfl (less_cons rfl less_nil)))))), hM, hF⟩
                        · rw [if_neg (ne_true hc)] at hF
                          refine RL.gval rfl rfl (O.move rfl) rfl ?_
                          refine RL.gval rfl rfl (O.move rfl) rfl ?_
                          refine RL.gval rfl rfl (O.neq rfl rfl) rfl ?_
                          refine RL.val (O.pickf rfl rfl) rfl ?_
                          refine RL.val (O.move rfl) rfl ?_
                          refine RL.bcase (t := 141) rfl (fun hc => ?_) (fun hc => ?_)
                          · rw [if_pos hc] at hF
                            refine RL.brun1 19 160 true (by kernel_rfl) ?_
                            refine RL.nil ?_
                            refine KQ.then_k ?_
                            replace hM := hM.pick [0, 2, 3, 4] rfl (by decide)
                            exact fun a ha => ⟨true, ha.less (less_cons rfl (less_cons rfl (less_cons rfl (less_cons rfl (less_cons rfl (less_cons rfl less_nil)))))), hM, hF⟩
                          · rw [if_neg (ne_true hc)] at hF
                            refine RL.gval rfl rfl (O.move rfl) rfl ?_
                            refine RL.gval rfl rfl (O.len sl22 rfl) rfl ?_
                            refine RL.gval rfl rfl (O.move rfl) rfl ?_
                            refine RL.gval rfl rfl (O.len sl22 rfl) rfl ?_
                            refine RL.gval rfl rfl (O.neq rfl rfl) rfl ?_
                            refine RL.val (O.pickf rfl rfl) rfl ?_
                            refine RL.val (O.move rfl) rfl ?_
                            refine RL.bcase (t := 148) rfl (fun hc => ?_) (fun hc => ?_)
                            · rw [if_pos hc] at hF
                              refine RL.brun1 12 160 true (by kernel_rfl) ?_
                              refine RL.nil ?_
                              refine KQ.then_k ?_
                              replace hM := hM.pick [0, 2, 3, 4] rfl (by decide)
                              exact fun a ha => ⟨true, ha.less (less_cons rfl (less_cons rfl (less_cons rfl (less_cons rfl (less_cons rfl (less_cons rfl less_nil)))))), hM, hF⟩
                            · rw [if_neg (ne_true hc)] at hF
                              refine RL.gval rfl rfl (O.fldA fl39_6 (by decide) rfl) rfl ?_
                              refine RL.gval rfl rfl (O.load sc5 rfl (Cs.adds [6] ((hM.bx (i := 4) rfl)) rfl)) rfl ?_
                              refine RL.gval rfl rfl (O.fldA fl39_6 (by decide) rfl) rfl ?_
                              refine RL.gval rfl rfl (O.load sc5 rfl (Cs.adds [6] ((hM.bx (i := 0) rfl)) rfl)) rfl ?_
                              refine RL.gval rfl rfl (O.sub rfl rfl) rfl ?_
                              refine RL.gval rfl rfl (O.neq rfl rfl) rfl ?_
                              refine RL.val (O.pickf rfl rfl) rfl ?_
                              refine RL.val (O.move rfl) rfl ?_
                              refine RL.bcase (t := 156) rfl (fun hc => ?_) (fun hc => ?_)
                              · rw [if_pos hc] at hF
                                refine RL.brun1 4 160 true (by kernel_rfl) ?_
                                refine RL.nil ?_
                                refine KQ.then_k ?_
                                replace hM := hM.pick [0, 2, 3, 4] rfl (by decide)
                                exact fun a ha => ⟨true, ha.less (less_cons rfl (less_cons rfl (less_cons rfl (less_cons rfl (less_cons rfl (less_cons rfl less_nil)))))), hM, hF⟩
                              · rw [if_neg (ne_true hc)] at hF
                                refine RL.gval rfl rfl (O.loadN (cs := [.int .u8 y114.1.f_TOS, .int .u16 y114.1.f_Total, .int .u16 y114.1.f_ID, .bool y114.1.f_DF, .bool y114.1.f_MF, .int .u16 y114.1.f_Frag, .int .u8 y114.1.f_TTL, .int .u8 y114.1.f_Proto, .int .u8 (List.getD y114.1.f_Src 0 0), .int .u8 (List.getD y114.1.f_Src 1 0), .int .u8 (List.getD y114.1.f_Src 2 0), .int .u8 (List.getD y114.1.f_Src 3 0), .int .u8 (List.getD y114.1.f_Dst 0 0), .int .u8 (List.getD y114.1.f_Dst 1 0), .int .u8 (List.getD y114.1.f_Dst 2 0), .int .u8 (List.getD y114.1.f_Dst 3 0), .slice A118 (y114.1.f_Options).length c119]) ag39 rfl (Cs.addsN [] ((hM.bx (i := 4) rfl)) rfl)) rfl ?_
                                refine obindE hF fun y125 hx126 hF => ?_
                                refine RL.gcall rfl rfl Try.func15 bd15 rfl rfl (c_ip_Right _ y114.1 _ _ (hM.rd (i := 3) rfl) _ hx126) fun v w127 hv => ?_
                                obtain ⟨rfl, hN128⟩ := hv
                                replace hM := hM.call0 hN128
                                refine RL.gval rfl rfl (O.not rfl) rfl ?_
                                refine RL.val (O.pickf rfl rfl) rfl ?_
                                refine RL.nil ?_
                                refine KQ.then_k ?_
                                replace hM := hM.pick [0, 2, 3, 4] rfl (by decide)
                                exact fun a ha => ⟨(!y125), ha.less (less_cons rfl (less_cons rfl (less_cons rfl (less_cons rfl (less_cons rfl (less_cons rfl less_nil)))))), hM, hF⟩
                    · rintro a w134 ⟨t133, ha, hM, hF⟩
                      refine KC.app ha ?_
                      clear ha
                      unfold F_law05_IpBack_j5 at hF
                      refine KC.cond rfl (fun hc => ?_) (fun hc => ?_)
                      · rw [if_pos hc] at hF
                        refine KC.seq ?_
                        refine KC.region ?_
                        refine RL.val (O.assign rfl) rfl ?_
                        refine RL.nil ?_
                        refine KQ.then_n ?_
                        refine KC.ret ?_
                        refine KQ.then_r ?_
                        have hE := Option.some.inj hF
                        clear hF
                        subst hE
                        replace hM := hM.pick [] rfl (by decide)
                        refine KQ.rets Try.results5 (RVs.cons (RV.tm rfl) RVs.nil) ?_
                        exact ⟨_, rfl, rfl, hM⟩
                      · rw [if_neg (ne_true hc)] at hF
                        refine KC.skip ?_
                        refine KQ.then_n ?_
                        refine KC.seq ?_
                        refine KC.region ?_
                        refine RL.val (O.fldA fl39_6 (by decide) rfl) rfl ?_
                        refine RL.val (O.load sc5 rfl (Cs.adds [6] ((hM.bx (i := 0) rfl)) rfl)) rfl ?_
                        refine RL.val (O.fldA fl39_6 (by decide) rfl) rfl ?_
                        refine RL.effs (E.stB (j := 3) (off := 6) (vs := [.int .u8 h1.f_TTL]) (cs' := [.int .u8 y114.1.f_TOS, .int .u16 y114.1.f_Total, .int .u16 y114.1.f_ID, .bool y114.1.f_DF, .bool y114.1.f_MF, .int .u16 y114.1.f_Frag, .int .u8 h1.f_TTL, .int .u8 y114.1.f_Proto, .int .u8 (List.getD y114.1.f_Src 0 0), .int .u8 (List.getD y114.1.f_Src 1 0), .int .u8 (List.getD y114.1.f_Src 2 0), .int .u8 (List.getD y114.1.f_Src 3 0), .int .u8 (List.getD y114.1.f_Dst 0 0), .int .u8 (List.getD y114.1.f_Dst 1 0), .int .u8 (List.getD y114.1.f_Dst 2 0), .int .u8 (List.getD y114.1.f_Dst 3 0), .slice A118 (y114.1.f_Options).length c119]) hM rfl sz5 rfl (adds_eq [6] rfl) rfl rfl (One.all rfl) rfl rfl) fun w135 hM1 => ?_
                        clear hM
                        have hM := hM1
                        clear hM1
                        refine RL.nil ?_
                        refine KQ.then_n ?_
                        refine KC.cut (fun a w156 => ∃ (t155 : Bool), Kn 177 [(8, .bool t155)] a ∧ Mem w [] w156 [] ∧ F_law05_IpBack_j6 t155 = some r) ?_ ?_
                        · refine KC.region ?_
                          refine RL.val (O.loadN (cs := [.int .u8 y114.1.f_TOS, .int .u16 y114.1.f_Total, .int .u16 y114.1.f_ID, .bool y114.1.f_DF, .bool y114.1.f_MF, .int .u16 y114.1.f_Frag, .int .u8 h1.f_TTL, .int .u8 y114.1.f_Proto, .int .u8 (List.getD y114.1.f_Src 0 0), .int .u8 (List.getD y114.1.f_Src 1 0), .int .u8 (List.getD y114.1.f_Src 2 0), .int .u8 (List.getD y114.1.f_Src 3 0), .int .u8 (List.getD y114.1.f_Dst 0 0), .int .u8 (List.getD y114.1.f_Dst 1 0), .int .u8 (List.getD y114.1.f_Dst 2 0), .int .u8 (List.getD y114.1.f_Dst 3 0), .slice A118 (y114.1.f_Options).length c119]) ag39 rfl (Cs.addsN [] ((hM.bx (i := 3) rfl)) rfl)) rfl ?_
                          refine RL.val (O.loadN (cs := [.int .u8 h1.f_TOS, .int .u16 h1.f_Total, .int .u16 h1.f_ID, .bool h1.f_DF, .bool h1.f_MF, .int .u16 h1.f_Frag, .int .u8 h1.f_TTL, .int .u8 h1.f_Proto, .int .u8 (List.getD h1.f_Src 0 0), .int .u8 (List.getD h1.f_Src 1 0), .int .u8 (List.getD h1.f_Src 2 0), .int .u8 (List.getD h1.f_Src 3 0), .int .u8 (List.getD h1.f_Dst 0 0), .int .u8 (List.getD h1.f_Dst 1 0), .int .u8 (List.getD h1.f_Dst 2 0), .int .u8 (List.getD h1.f_Dst 3 0), .slice A2 (h1.f_Options).length c3]) ag39 rfl (Cs.addsN [] ((hM.bx (i := 0) rfl)) rfl)) rfl ?_
                          refine obindE hF fun y136 hx137 hF => ?_
                          refine RL.call Try.func17 bd17 rfl rfl (c_ip_Same _ (T_ip_Header.mk y114.1.f_TOS y114.1.f_Total y114.1.f_ID y114.1.f_DF y114.1.f_MF y114.1.f_Frag h1.f_TTL y114.1.f_Proto y114.1.f_Src y114.1.f_Dst y114.1.f_Options) _ _ (hM.rd (i := 2) rfl) h1 _ _ (hM.inp hr4 Off.nil) _ hx137) fun v w138 hv => ?_
                          obtain ⟨rfl, hN139⟩ := hv
                          replace hM := hM.call0 hN139
                          refine RL.val (O.move rfl) rfl ?_
                          refine RL.bcase (t := 167) rfl (fun hc => ?_) (fun hc => ?_)
                          · rw [if_pos hc] at hF
                            refine RL.gval rfl rfl (O.move rfl) rfl ?_
                            refine RL.gval rfl rfl (O.move rfl) rfl ?_
                            refine obindE hF fun cut140 hy141 hF => ?_
                            obtain ⟨A142, c143, eA145, ec146⟩ := cutN A105 c106 (Int.toNat y43.2.1) 1
                            have hr144 := Rd.cutT (enc := (eI .u8)) (s := 1) (fun _ => rfl) (hM.rd (i := 1) rfl) hy141 (m := c106) (by have := (hM.rd (i := 1) rfl).cap; have := (gcut_some hy141).2.2.1; omega) (Nat.le_refl _)
                            rw [← eA145, ← ec146] at hr144
                            refine RL.gval (v := .slice A142 (cut140).length c143) rfl rfl (by rw [eA145, ec146]; exact O.cutlT sl22 (hM.rd (i := 1) rfl) hy141 rfl rfl) rfl ?_
                            refine RL.gval rfl rfl (O.move rfl) rfl ?_
                            refine obindE hF fun y147 hx148 hF => ?_
                            refine RL.gcall rfl rfl Try.func14 bd14 rfl rfl (c_ref01_Same _ _ _ cut140 hr144 _ _ behind5 (hM.inp hr8 Off.nil) _ hx148) fun v w149 hv => ?_
                            obtain ⟨rfl, hN150⟩ := hv
                            have hr144 := hr144.fut hN150.fut
                            replace hM := hM.call0 hN150
                            refine RL.val (O.pickt rfl rfl) rfl ?_
                            refine RL.val (O.move rfl) rfl ?_
                            refine RL.bcase (t := 174) rfl (fun hc => ?_) (fun hc => ?_)
                            · rw [if_pos hc] at hF
                              refine obindE hF fun y151 hx152 hF => ?_
                              refine RL.gcall rfl rfl Try.func8 bd8 rfl rfl (c_law05_works _ _ hx152) fun v w153 hv => ?_
                              obtain ⟨rfl, hN154⟩ := hv
                              have hr144 := hr144.fut hN154.fut
                              replace hM := hM.call0 hN154
                              refine RL.val (O.pickt rfl rfl) rfl ?_
                              refine RL.val (O.assign rfl) rfl ?_
                              refine RL.nil ?_
                              refine KQ.then_k ?_
                              replace hM := hM.pick [] rfl (by decide)
                              exact fun a ha => ⟨y151, ha.less (less_cons rfl less_nil), hM, hF⟩
                            · rw [if_neg (ne_true hc)] at hF
                              refine RL.gskip rfl rfl rfl rfl ?_
                              refine RL.val (O.pickf rfl rfl) rfl ?_
                              refine RL.val (O.assign rfl) rfl ?_
                              refine RL.nil ?_
                              refine KQ.then_k ?_
                              replace hM := hM.pick [] rfl (by decide)
                              exact fun a ha => ⟨false, ha.less (less_cons rfl less_nil), hM, hF⟩
                          · rw [if_neg (ne_true hc)] at hF
                            refine RL.brun1 9 176 false (by kernel_rfl) ?_
                            refine RL.val (O.assign rfl) rfl ?_
                            refine RL.nil ?_
                            refine KQ.then_k ?_
                            replace hM := hM.pick [] rfl (by decide)
                            exact fun a ha => ⟨false, ha.less (less_cons rfl less_nil), hM, hF⟩
                        · rintro a w156 ⟨t155, ha, hM, hF⟩
                          refine KC.app ha ?_
                          clear ha
                          unfold F_law05_IpBack_j6 at hF
                          refine KC.ret ?_
                          have hE := Option.some.inj hF
                          clear hF
                          subst hE
                          refine KQ.rets Try.results5 (RVs.cons (RV.tm rfl) RVs.nil) ?_
                          exact ⟨_, rfl, rfl, hM⟩
end Go.Proofs.Ytjfdfjmnajjjaaa
