/- Printed by a program of this claim: each call returns what the plain function of its name gives. -/
import Derived.Test.YtjfdfjmnajjjaaaW1
import Derived.Test.YtjfdfjmnajjjaaaW4
import Derived.Test.YtjfdfjmnajjjaaaW5
import Derived.Test.YtjfdfjmnajjjaaaW6
import Derived.Test.YtjfdfjmnajjjaaaW7
import Derived.Test.YtjfdfjmnajjjaaaW9
import Derived.Test.YtjfdfjmnajjjaaaW10
import Derived.Test.YtjfdfjmnajjjaaaW11
import Derived.Test.YtjfdfjmnajjjaaaW12
set_option linter.unusedVariables false
namespace Go.Proofs.Ytjfdfjmnajjjaaa
open Go Go.Ox Go.RowKit
set_option maxRecDepth 100000 in
set_option maxHeartbeats 40000000 in
theorem c_law05_IpBack (w : World) (h1 : T_ip_Header) (A2 : Option Addr) (c3 : Nat) (hr4 : Rd w A2 c3 1 h1.f_Options.length (h1.f_Options.flatMap (eI .u8))) (A6 : Option Addr) (c7 : Nat) (behind5 : List Int) (hr8 : Rd w A6 c7 1 behind5.length (behind5.flatMap (eI .u8))) (atv9 : Int) (byv10 : Int) (r : Bool) (hF : F_law05_IpBack h1 behind5 atv9 byv10 = some r) :
    CallsR Try.prog 5 [.agg #[.int .u8 h1.f_TOS, .int .u16 h1.f_Total, .int .u16 h1.f_ID, .bool h1.f_DF, .bool h1.f_MF, .int .u16 h1.f_Frag, .int .u8 h1.f_TTL, .int .u8 h1.f_Proto, .int .u8 (List.getD h1.f_Src 0 0), .int .u8 (List.getD h1.f_Src 1 0), .int .u8 (List.getD h1.f_Src 2 0), .int .u8 (List.getD h1.f_Src 3 0), .int .u8 (List.getD h1.f_Dst 0 0), .int .u8 (List.getD h1.f_Dst 1 0), .int .u8 (List.getD h1.f_Dst 2 0), .int .u8 (List.getD h1.f_Dst 3 0), .slice A2 (h1.f_Options).length c3], .slice A6 (behind5).length c7, .int .i64 atv9, .int .u8 byv10] w (fun v w' => v = .bool r ∧ Mem w [] w' []) := by
  refine calls_KC Try.func5 rfl Try.ntmps5 rfl ?_
  have hM := Mem.init w
  unfold F_law05_IpBack at hF
  refine KC.seqH fun Q11 hQ11 => ?_
  refine KC.region ?_
  refine RL.eff (E.box (vs := [.int .u8 h1.f_TOS, .int .u16 h1.f_Total, .int .u16 h1.f_ID, .bool h1.f_DF, .bool h1.f_MF, .int .u16 h1.f_Frag, .int .u8 h1.f_TTL, .int .u8 h1.f_Proto, .int .u8 (List.getD h1.f_Src 0 0), .int .u8 (List.getD h1.f_Src 1 0), .int .u8 (List.getD h1.f_Src 2 0), .int .u8 (List.getD h1.f_Src 3 0), .int .u8 (List.getD h1.f_Dst 0 0), .int .u8 (List.getD h1.f_Dst 1 0), .int .u8 (List.getD h1.f_Dst 2 0), .int .u8 (List.getD h1.f_Dst 3 0), .slice A2 (h1.f_Options).length c3]) hM rfl rfl) rfl fun v w13 hv => ?_
  clear hM
  obtain ⟨g12, rfl, hM, hf⟩ := hv
  refine RL.val (O.assign rfl) rfl ?_
  refine RL.nil ?_
  refine KQ.thn hQ11 ?_
  clear hQ11 Q11
  refine KC.seqH fun Q15 hQ15 => ?_
  refine KC.cut (fun a w18 => ∃ (t17 : Bool), Kn 177 [(1, .slice A6 (behind5).length c7), (2, .int .i64 atv9), (3, .int .u8 byv10), (4, .pointer (some ⟨g12, 0, none⟩)), (32, .bool t17)] a ∧ Mem w [] w18 [.box g12 39 [.int .u8 h1.f_TOS, .int .u16 h1.f_Total, .int .u16 h1.f_ID, .bool h1.f_DF, .bool h1.f_MF, .int .u16 h1.f_Frag, .int .u8 h1.f_TTL, .int .u8 h1.f_Proto, .int .u8 (List.getD h1.f_Src 0 0), .int .u8 (List.getD h1.f_Src 1 0), .int .u8 (List.getD h1.f_Src 2 0), .int .u8 (List.getD h1.f_Src 3 0), .int .u8 (List.getD h1.f_Dst 0 0), .int .u8 (List.getD h1.f_Dst 1 0), .int .u8 (List.getD h1.f_Dst 2 0), .int .u8 (List.getD h1.f_Dst 3 0), .slice A2 (h1.f_Options).length c3]] ∧ F_law05_IpBack_j1 h1 behind5 atv9 byv10 t17 = some r) ?_ ?_
  · refine KC.region ?_
    refine RL.val (O.fldA fl39_10 (by decide) rfl) rfl ?_
    refine RL.val (O.load sc22 rfl (Cs.adds [16] ((hM.bx (i := 0) rfl)) rfl)) rfl ?_
    refine RL.val (O.len sl22 rfl) rfl ?_
    refine RL.val (O.gtr rfl rfl) rfl ?_
    refine RL.val (O.move rfl) rfl ?_
    refine RL.bcase (t := 28) rfl (fun hc => ?_) (fun hc => ?_)
    · rw [if_pos hc] at hF
      refine RL.brun1 4 32 true (by kernel_rfl) ?_
      refine RL.nil ?_
      refine KQ.then_k ?_
      exact fun a ha => ⟨true, ha.less (less_cons rfl (less_cons rfl (less_cons rfl (less_cons rfl (less_cons rfl less_nil))))), hM, hF⟩
    · rw [if_neg (ne_true hc)] at hF
      refine RL.gval rfl rfl (O.move rfl) rfl ?_
      refine RL.gval rfl rfl (O.len sl22 rfl) rfl ?_
      refine RL.gval rfl rfl (O.gtr rfl rfl) rfl ?_
      refine RL.val (O.pickf rfl rfl) rfl ?_
      refine RL.nil ?_
      refine KQ.then_k ?_
      exact fun a ha => ⟨(decide (300 < (behind5.length : Int))), ha.less (less_cons rfl (less_cons rfl (less_cons rfl (less_cons rfl (less_cons rfl less_nil))))), hM, hF⟩
  · rintro a w18 ⟨t17, ha, hM, hF⟩
    refine KC.app ha ?_
    clear ha
    unfold F_law05_IpBack_j1 at hF
    refine KC.cond rfl (fun hc => ?_) (fun hc => ?_)
    · rw [if_pos hc] at hF
      refine KC.seqH fun Q19 hQ19 => ?_
      refine KC.region ?_
      refine obindE hF fun y20 hx21 hF => ?_
      refine RL.call Try.func8 bd8 rfl rfl (c_law05_works _ _ hx21) fun v w22 hv => ?_
      obtain ⟨rfl, hN23⟩ := hv
      replace hM := hM.call0 hN23
      refine RL.val (O.assign rfl) rfl ?_
      refine RL.nil ?_
      refine KQ.thn hQ19 ?_
      clear hQ19 Q19
      refine KC.ret ?_
      refine KQ.thr hQ15 ?_
      clear hQ15 Q15
      have hE := Option.some.inj hF
      clear hF
      subst hE
      replace hM := hM.pick [] rfl (by decide)
      refine KQ.rets Try.results5 (RVs.cons (RV.tm rfl) RVs.nil) ?_
      exact ⟨_, rfl, rfl, hM⟩
    · rw [if_neg (ne_true hc)] at hF
      refine KC.skip ?_
      refine KQ.thn hQ15 ?_
      clear hQ15 Q15
      refine KC.seqH fun Q24 hQ24 => ?_
      refine KC.region ?_
      refine RL.val (O.loadN (cs := [.int .u8 h1.f_TOS, .int .u16 h1.f_Total, .int .u16 h1.f_ID, .bool h1.f_DF, .bool h1.f_MF, .int .u16 h1.f_Frag, .int .u8 h1.f_TTL, .int .u8 h1.f_Proto, .int .u8 (List.getD h1.f_Src 0 0), .int .u8 (List.getD h1.f_Src 1 0), .int .u8 (List.getD h1.f_Src 2 0), .int .u8 (List.getD h1.f_Src 3 0), .int .u8 (List.getD h1.f_Dst 0 0), .int .u8 (List.getD h1.f_Dst 1 0), .int .u8 (List.getD h1.f_Dst 2 0), .int .u8 (List.getD h1.f_Dst 3 0), .slice A2 (h1.f_Options).length c3]) ag39 rfl (Cs.addsN [] ((hM.bx (i := 0) rfl)) rfl)) rfl ?_
      refine obindE hF fun y25 hx26 hF => ?_
      refine RL.call Try.func13 bd13 rfl rfl (c_ip_Put _ h1 _ _ (hM.inp hr4 Off.nil) _ hx26) fun v w27 hv => ?_
      obtain ⟨A29, c30, rfl, hN28⟩ := hv
      replace hM := hM.call hN28
      refine RL.val (O.move rfl) rfl ?_
      refine RL.val (O.ext rfl rfl) rfl ?_
      refine RL.val (O.ext rfl rfl) rfl ?_
      refine RL.val (O.assign rfl) rfl ?_
      refine RL.val (O.assign rfl) rfl ?_
      refine RL.nil ?_
      refine KQ.thn hQ24 ?_
      clear hQ24 Q24
      refine KC.seqH fun Q32 hQ32 => ?_
      refine KC.seqH fun Q33 hQ33 => ?_
      refine KC.region ?_
      refine RL.val (O.move rfl) rfl ?_
      refine RL.val (O.eql rfl rfl) rfl ?_
      refine RL.val (O.loadN (cs := [.int .u8 h1.f_TOS, .int .u16 h1.f_Total, .int .u16 h1.f_ID, .bool h1.f_DF, .bool h1.f_MF, .int .u16 h1.f_Frag, .int .u8 h1.f_TTL, .int .u8 h1.f_Proto, .int .u8 (List.getD h1.f_Src 0 0), .int .u8 (List.getD h1.f_Src 1 0), .int .u8 (List.getD h1.f_Src 2 0), .int .u8 (List.getD h1.f_Src 3 0), .int .u8 (List.getD h1.f_Dst 0 0), .int .u8 (List.getD h1.f_Dst 1 0), .int .u8 (List.getD h1.f_Dst 2 0), .int .u8 (List.getD h1.f_Dst 3 0), .slice A2 (h1.f_Options).length c3]) ag39 rfl (Cs.addsN [] ((hM.bx (i := 0) rfl)) rfl)) rfl ?_
      refine obindE hF fun y34 hx35 hF => ?_
      refine RL.call Try.func15 bd15 rfl rfl (c_ip_Right _ h1 _ _ (hM.inp hr4 Off.nil) _ hx35) fun v w36 hv => ?_
      obtain ⟨rfl, hN37⟩ := hv
      replace hM := hM.call0 hN37
      refine RL.val (O.neqb Try.underlying4 rfl rfl) rfl ?_
      refine RL.nil ?_
      refine KQ.thn hQ33 ?_
      clear hQ33 Q33
      refine KC.cond rfl (fun hc => ?_) (fun hc => ?_)
      · rw [if_pos hc] at hF
        refine KC.seqH fun Q38 hQ38 => ?_
        refine KC.region ?_
        refine RL.val (O.assign rfl) rfl ?_
        refine RL.nil ?_
        refine KQ.thn hQ38 ?_
        clear hQ38 Q38
        refine KC.ret ?_
        refine KQ.thr hQ32 ?_
        clear hQ32 Q32
        have hE := Option.some.inj hF
        clear hF
        subst hE
        replace hM := hM.pick [] rfl (by decide)
        refine KQ.rets Try.results5 (RVs.cons (RV.tm rfl) RVs.nil) ?_
        exact ⟨_, rfl, rfl, hM⟩
      · rw [if_neg (ne_true hc)] at hF
        refine KC.skip ?_
        refine KQ.thn hQ32 ?_
        clear hQ32 Q32
        refine KC.seqH fun Q39 hQ39 => ?_
        refine KC.seqH fun Q40 hQ40 => ?_
        refine KC.region ?_
        refine RL.val (O.move rfl) rfl ?_
        refine RL.val (O.neq rfl rfl) rfl ?_
        refine RL.nil ?_
        refine KQ.thn hQ40 ?_
        clear hQ40 Q40
        refine KC.cond rfl (fun hc => ?_) (fun hc => ?_)
        · rw [if_pos hc] at hF
          refine KC.seqH fun Q41 hQ41 => ?_
          refine KC.region ?_
          refine obindE hF fun y42 hx43 hF => ?_
          refine RL.call Try.func8 bd8 rfl rfl (c_law05_works _ _ hx43) fun v w44 hv => ?_
          obtain ⟨rfl, hN45⟩ := hv
          replace hM := hM.call0 hN45
          refine RL.val (O.assign rfl) rfl ?_
          refine RL.nil ?_
          refine KQ.thn hQ41 ?_
          clear hQ41 Q41
          refine KC.ret ?_
          refine KQ.thr hQ39 ?_
          clear hQ39 Q39
          have hE := Option.some.inj hF
          clear hF
          subst hE
          replace hM := hM.pick [] rfl (by decide)
          refine KQ.rets Try.results5 (RVs.cons (RV.tm rfl) RVs.nil) ?_
          exact ⟨_, rfl, rfl, hM⟩
        · rw [if_neg (ne_true hc)] at hF
          refine KC.skip ?_
          refine KQ.thn hQ39 ?_
          clear hQ39 Q39
          refine KC.seqH fun Q46 hQ46 => ?_
          refine KC.region ?_
          refine RL.val (O.move rfl) rfl ?_
          refine RL.val (O.move rfl) rfl ?_
          refine obindE hF fun y47 hx48 hF => ?_
          refine RL.call Try.func18 bd18 rfl rfl (c_ref01_Join _ _ _ y25.1 (hM.rd (i := 1) rfl) _ _ behind5 (hM.inp hr8 Off.nil) _ hx48) fun v w49 hv => ?_
          obtain ⟨A51, c52, rfl, hN50⟩ := hv
          replace hM := hM.call hN50
          refine RL.val (O.assign rfl) rfl ?_
          refine RL.nil ?_
          refine KQ.thn hQ46 ?_
          clear hQ46 Q46
          refine KC.seqH fun Q54 hQ54 => ?_
          refine KC.region ?_
          refine RL.val (O.move rfl) rfl ?_
          refine obindE hF fun y55 hx56 hF => ?_
          refine RL.call Try.func19 bd19 rfl rfl (c_ip_Parse _ _ _ y47 (hM.rd (i := 2) rfl) _ hx56) fun v w57 hv => ?_
          obtain ⟨A59, c60, rfl, hN58⟩ := hv
          replace hM := hM.call hN58
          refine RL.val (O.move rfl) rfl ?_
          refine RL.val (O.ext rfl rfl) rfl ?_
          refine RL.val (O.ext rfl rfl) rfl ?_
          refine RL.val (O.ext rfl rfl) rfl ?_
          refine RL.eff (E.alloc hM ze39) rfl fun v w63 hv => ?_
          clear hM
          obtain ⟨g62, rfl, hM, hf⟩ := hv
          refine RL.effs (E.stB (j := 4) (off := 0) (vs := [.int .u8 y55.1.f_TOS, .int .u16 y55.1.f_Total, .int .u16 y55.1.f_ID, .bool y55.1.f_DF, .bool y55.1.f_MF, .int .u16 y55.1.f_Frag, .int .u8 y55.1.f_TTL, .int .u8 y55.1.f_Proto, .int .u8 (List.getD y55.1.f_Src 0 0), .int .u8 (List.getD y55.1.f_Src 1 0), .int .u8 (List.getD y55.1.f_Src 2 0), .int .u8 (List.getD y55.1.f_Src 3 0), .int .u8 (List.getD y55.1.f_Dst 0 0), .int .u8 (List.getD y55.1.f_Dst 1 0), .int .u8 (List.getD y55.1.f_Dst 2 0), .int .u8 (List.getD y55.1.f_Dst 3 0), .slice A59 (y55.1.f_Options).length c60]) (cs' := [.int .u8 y55.1.f_TOS, .int .u16 y55.1.f_Total, .int .u16 y55.1.f_ID, .bool y55.1.f_DF, .bool y55.1.f_MF, .int .u16 y55.1.f_Frag, .int .u8 y55.1.f_TTL, .int .u8 y55.1.f_Proto, .int .u8 (List.getD y55.1.f_Src 0 0), .int .u8 (List.getD y55.1.f_Src 1 0), .int .u8 (List.getD y55.1.f_Src 2 0), .int .u8 (List.getD y55.1.f_Src 3 0), .int .u8 (List.getD y55.1.f_Dst 0 0), .int .u8 (List.getD y55.1.f_Dst 1 0), .int .u8 (List.getD y55.1.f_Dst 2 0), .int .u8 (List.getD y55.1.f_Dst 3 0), .slice A59 (y55.1.f_Options).length c60]) hM rfl sz39 rfl (adds_eq [] rfl) rfl rfl (One.all rfl) rfl rfl) fun w65 hM1 => ?_
          clear hM
          have hM := hM1
          clear hM1
          refine RL.val (O.assign rfl) rfl ?_
          refine RL.val (O.assign rfl) rfl ?_
          refine RL.nil ?_
          refine KQ.thn hQ54 ?_
          clear hQ54 Q54
          refine KC.seqH fun Q66 hQ66 => ?_
          refine KC.cut (fun a w75 => ∃ (t74 : Bool), Kn 177 [(1, .slice A6 (behind5).length c7), (2, .int .i64 atv9), (3, .int .u8 byv10), (4, .pointer (some ⟨g12, 0, none⟩)), (9, .slice A29 (y25.1).length c30), (11, .slice A51 (y47).length c52), (13, .int .i64 y55.2.1), (69, .bool t74)] a ∧ Mem w [] w75 [.box g12 39 [.int .u8 h1.f_TOS, .int .u16 h1.f_Total, .int .u16 h1.f_ID, .bool h1.f_DF, .bool h1.f_MF, .int .u16 h1.f_Frag, .int .u8 h1.f_TTL, .int .u8 h1.f_Proto, .int .u8 (List.getD h1.f_Src 0 0), .int .u8 (List.getD h1.f_Src 1 0), .int .u8 (List.getD h1.f_Src 2 0), .int .u8 (List.getD h1.f_Src 3 0), .int .u8 (List.getD h1.f_Dst 0 0), .int .u8 (List.getD h1.f_Dst 1 0), .int .u8 (List.getD h1.f_Dst 2 0), .int .u8 (List.getD h1.f_Dst 3 0), .slice A2 (h1.f_Options).length c3], .row A29 c30 5 1 (y25.1).length ((y25.1).flatMap (eI .u8)), .row A51 c52 5 1 (y47).length ((y47).flatMap (eI .u8))] ∧ F_law05_IpBack_j2 h1 behind5 atv9 byv10 y25 y47 y55 t74 = some r) ?_ ?_
          · refine KC.region ?_
            refine RL.val (O.move rfl) rfl ?_
            refine RL.val (O.neq rfl rfl) rfl ?_
            refine RL.val (O.move rfl) rfl ?_
            refine RL.bcase (t := 58) rfl (fun hc => ?_) (fun hc => ?_)
            · rw [if_pos hc] at hF
              refine RL.brun1 11 69 true (by kernel_rfl) ?_
              refine RL.nil ?_
              refine KQ.then_k ?_
              replace hM := hM.pick [0, 1, 2] rfl (by decide)
              exact fun a ha => ⟨true, ha.less (less_cons rfl (less_cons rfl (less_cons rfl (less_cons rfl (less_cons rfl (less_cons rfl (less_cons rfl (less_cons rfl less_nil)))))))), hM, hF⟩
            · rw [if_neg (ne_true hc)] at hF
              refine RL.gval rfl rfl (O.move rfl) rfl ?_
              refine RL.gval rfl rfl (O.move rfl) rfl ?_
              refine RL.gval rfl rfl (O.len sl22 rfl) rfl ?_
              refine RL.gval rfl rfl (O.neq rfl rfl) rfl ?_
              refine RL.val (O.pickf rfl rfl) rfl ?_
              refine RL.val (O.move rfl) rfl ?_
              refine RL.bcase (t := 64) rfl (fun hc => ?_) (fun hc => ?_)
              · rw [if_pos hc] at hF
                refine RL.brun1 5 69 true (by kernel_rfl) ?_
                refine RL.nil ?_
                refine KQ.then_k ?_
                replace hM := hM.pick [0, 1, 2] rfl (by decide)
                exact fun a ha => ⟨true, ha.less (less_cons rfl (less_cons rfl (less_cons rfl (less_cons rfl (less_cons rfl (less_cons rfl (less_cons rfl (less_cons rfl less_nil)))))))), hM, hF⟩
              · rw [if_neg (ne_true hc)] at hF
                refine RL.gval rfl rfl (O.loadN (cs := [.int .u8 y55.1.f_TOS, .int .u16 y55.1.f_Total, .int .u16 y55.1.f_ID, .bool y55.1.f_DF, .bool y55.1.f_MF, .int .u16 y55.1.f_Frag, .int .u8 y55.1.f_TTL, .int .u8 y55.1.f_Proto, .int .u8 (List.getD y55.1.f_Src 0 0), .int .u8 (List.getD y55.1.f_Src 1 0), .int .u8 (List.getD y55.1.f_Src 2 0), .int .u8 (List.getD y55.1.f_Src 3 0), .int .u8 (List.getD y55.1.f_Dst 0 0), .int .u8 (List.getD y55.1.f_Dst 1 0), .int .u8 (List.getD y55.1.f_Dst 2 0), .int .u8 (List.getD y55.1.f_Dst 3 0), .slice A59 (y55.1.f_Options).length c60]) ag39 rfl (Cs.addsN [] ((hM.bx (i := 4) rfl)) rfl)) rfl ?_
                refine RL.gval rfl rfl (O.loadN (cs := [.int .u8 h1.f_TOS, .int .u16 h1.f_Total, .int .u16 h1.f_ID, .bool h1.f_DF, .bool h1.f_MF, .int .u16 h1.f_Frag, .int .u8 h1.f_TTL, .int .u8 h1.f_Proto, .int .u8 (List.getD h1.f_Src 0 0), .int .u8 (List.getD h1.f_Src 1 0), .int .u8 (List.getD h1.f_Src 2 0), .int .u8 (List.getD h1.f_Src 3 0), .int .u8 (List.getD h1.f_Dst 0 0), .int .u8 (List.getD h1.f_Dst 1 0), .int .u8 (List.getD h1.f_Dst 2 0), .int .u8 (List.getD h1.f_Dst 3 0), .slice A2 (h1.f_Options).length c3]) ag39 rfl (Cs.addsN [] ((hM.bx (i := 0) rfl)) rfl)) rfl ?_
                refine obindE hF fun y67 hx68 hF => ?_
                refine RL.gcall rfl rfl Try.func17 bd17 rfl rfl (c_ip_Same _ y55.1 _ _ (hM.rd (i := 3) rfl) h1 _ _ (hM.inp hr4 Off.nil) _ hx68) fun v w69 hv => ?_
                obtain ⟨rfl, hN70⟩ := hv
                replace hM := hM.call0 hN70
                refine RL.gval rfl rfl (O.not rfl) rfl ?_
                refine RL.val (O.pickf rfl rfl) rfl ?_
                refine RL.nil ?_
                refine KQ.then_k ?_
                replace hM := hM.pick [0, 1, 2] rfl (by decide)
                exact fun a ha => ⟨(!y67), ha.less (less_cons rfl (less_cons rfl (less_cons rfl (less_cons rfl (less_cons rfl (less_cons rfl (less_cons rfl (less_cons rfl less_nil)))))))), hM, hF⟩
          · rintro a w75 ⟨t74, ha, hM, hF⟩
            refine KC.app ha ?_
            clear ha
            unfold F_law05_IpBack_j2 at hF
            refine KC.cond rfl (fun hc => ?_) (fun hc => ?_)
            · rw [if_pos hc] at hF
              refine KC.seqH fun Q76 hQ76 => ?_
              refine KC.region ?_
              refine RL.val (O.assign rfl) rfl ?_
              refine RL.nil ?_
              refine KQ.thn hQ76 ?_
              clear hQ76 Q76
              refine KC.ret ?_
              refine KQ.thr hQ66 ?_
              clear hQ66 Q66
              have hE := Option.some.inj hF
              clear hF
              subst hE
              replace hM := hM.pick [] rfl (by decide)
              refine KQ.rets Try.results5 (RVs.cons (RV.tm rfl) RVs.nil) ?_
              exact ⟨_, rfl, rfl, hM⟩
            · rw [if_neg (ne_true hc)] at hF
              refine KC.skip ?_
              refine KQ.thn hQ66 ?_
              clear hQ66 Q66
              refine KC.seqH fun Q77 hQ77 => ?_
              refine KC.region ?_
              refine RL.val (O.move rfl) rfl ?_
              refine obindE hF fun y78 hx79 hF => ?_
              refine RL.call Try.func18 bd18 rfl rfl (c_ref01_Join _ none 0 [] Rd.nilr _ _ y25.1 (hM.rd (i := 1) rfl) _ hx79) fun v w80 hv => ?_
              obtain ⟨A82, c83, rfl, hN81⟩ := hv
              replace hM := hM.call hN81
              refine RL.val (O.assign rfl) rfl ?_
              refine RL.nil ?_
              refine KQ.thn hQ77 ?_
              clear hQ77 Q77
              replace hM := hM.pick [0, 2, 3] rfl (by decide)
              refine KC.seqH fun Q85 hQ85 => ?_
              refine KC.region ?_
              refine RL.val (O.move rfl) rfl ?_
              refine RL.val (O.move rfl) rfl ?_
              refine RL.val (O.len sl22 rfl) rfl ?_
              refine RL.val (O.max2 rfl rfl) rfl ?_
              refine obindE hF fun y86 hx87 hF => ?_
              refine RL.call Try.func20 bd20 rfl rfl (c_kit_Pick _ atv9 (gmax 1 (y78.length : Int)) _ hx87) fun v w88 hv => ?_
              obtain ⟨rfl, hN89⟩ := hv
              replace hM := hM.call0 hN89
              refine RL.val (O.assign rfl) rfl ?_
              refine RL.nil ?_
              refine KQ.thn hQ85 ?_
              clear hQ85 Q85
              refine KC.seqH fun Q90 hQ90 => ?_
              refine KC.region ?_
              refine RL.val (O.move rfl) rfl ?_
              refine RL.val (O.move rfl) rfl ?_
              refine RL.val (O.move rfl) rfl ?_
              refine RL.val (O.move rfl) rfl ?_
              refine obindE hF fun xv93 hx92 hF => ?_
              have hA91 := Rd.atN (f := (eI .u8)) (s := 1) (fun _ => rfl) (by decide) (hM.rd (i := 2) rfl) hx92
              refine RL.val (O.idxA sl22 (hA91) rfl rfl) rfl ?_
              refine RL.val (O.load sc5 rfl (hA91).cells.at0) rfl ?_
              refine RL.val (O.move rfl) rfl ?_
              refine RL.val (O.add rfl rfl) rfl ?_
              refine obindE hF fun xv96 hx95 hF => ?_
              have hA94 := Rd.atN (f := (eI .u8)) (s := 1) (fun _ => rfl) (by decide) (hM.rd (i := 2) rfl) hx95
              refine RL.val (O.idxA sl22 (hA94) rfl rfl) rfl ?_
              refine RL.effs (E.stR (enc := (eI .u8)) (j := 2) (off := 0) (vs := [.int .u8 (IntKind.u8.wrap (xv93 + byv10))]) (x' := (IntKind.u8.wrap (xv93 + byv10))) hM rfl (fun _ => rfl) hx95 sz5 rfl (addsR_eq [] rfl) rfl rfl (One.all rfl) rfl rfl) fun w97 hM1 => ?_
              clear hM
              obtain ⟨hM, hn98⟩ := hM1
              refine RL.reslot (t := 15) rfl hn98 ?_
              refine RL.reslot (t := 77) rfl hn98 ?_
              refine RL.reslot (t := 79) rfl hn98 ?_
              refine RL.nil ?_
              refine KQ.thn hQ90 ?_
              clear hQ90 Q90
              refine KC.seqH fun Q99 hQ99 => ?_
              refine KC.region ?_
              refine RL.val (O.move rfl) rfl ?_
              refine obindE hF fun y100 hx101 hF => ?_
              refine RL.call Try.func19 bd19 rfl rfl (c_ip_Parse _ _ _ (y78.set (y86 : Int).toNat (IntKind.u8.wrap (xv93 + byv10))) (hM.rd (i := 2) rfl) _ hx101) fun v w102 hv => ?_
              obtain ⟨A104, c105, rfl, hN103⟩ := hv
              replace hM := hM.call hN103
              refine RL.val (O.move rfl) rfl ?_
              refine RL.val (O.ext rfl rfl) rfl ?_
              refine RL.val (O.ext rfl rfl) rfl ?_
              refine RL.val (O.ext rfl rfl) rfl ?_
              refine RL.eff (E.alloc hM ze39) rfl fun v w108 hv => ?_
              clear hM
              obtain ⟨g107, rfl, hM, hf⟩ := hv
              refine RL.effs (E.stB (j := 4) (off := 0) (vs := [.int .u8 y100.1.f_TOS, .int .u16 y100.1.f_Total, .int .u16 y100.1.f_ID, .bool y100.1.f_DF, .bool y100.1.f_MF, .int .u16 y100.1.f_Frag, .int .u8 y100.1.f_TTL, .int .u8 y100.1.f_Proto, .int .u8 (List.getD y100.1.f_Src 0 0), .int .u8 (List.getD y100.1.f_Src 1 0), .int .u8 (List.getD y100.1.f_Src 2 0), .int .u8 (List.getD y100.1.f_Src 3 0), .int .u8 (List.getD y100.1.f_Dst 0 0), .int .u8 (List.getD y100.1.f_Dst 1 0), .int .u8 (List.getD y100.1.f_Dst 2 0), .int .u8 (List.getD y100.1.f_Dst 3 0), .slice A104 (y100.1.f_Options).length c105]) (cs' := [.int .u8 y100.1.f_TOS, .int .u16 y100.1.f_Total, .int .u16 y100.1.f_ID, .bool y100.1.f_DF, .bool y100.1.f_MF, .int .u16 y100.1.f_Frag, .int .u8 y100.1.f_TTL, .int .u8 y100.1.f_Proto, .int .u8 (List.getD y100.1.f_Src 0 0), .int .u8 (List.getD y100.1.f_Src 1 0), .int .u8 (List.getD y100.1.f_Src 2 0), .int .u8 (List.getD y100.1.f_Src 3 0), .int .u8 (List.getD y100.1.f_Dst 0 0), .int .u8 (List.getD y100.1.f_Dst 1 0), .int .u8 (List.getD y100.1.f_Dst 2 0), .int .u8 (List.getD y100.1.f_Dst 3 0), .slice A104 (y100.1.f_Options).length c105]) hM rfl sz39 rfl (adds_eq [] rfl) rfl rfl (One.all rfl) rfl rfl) fun w110 hM1 => ?_
              clear hM
              have hM := hM1
              clear hM1
              refine RL.val (O.assign rfl) rfl ?_
              refine RL.val (O.assign rfl) rfl ?_
              refine RL.nil ?_
              refine KQ.thn hQ99 ?_
              clear hQ99 Q99
              replace hM := hM.pick [0, 1, 3, 4] rfl (by decide)
              refine KC.seqH fun Q111 hQ111 => ?_
              refine KC.cut (fun a w119 => ∃ (t118 : Bool), Kn 177 [(1, .slice A6 (behind5).length c7), (4, .pointer (some ⟨g12, 0, none⟩)), (11, .slice A51 (y47).length c52), (13, .int .i64 y55.2.1), (110, .bool t118)] a ∧ Mem w [] w119 [.box g12 39 [.int .u8 h1.f_TOS, .int .u16 h1.f_Total, .int .u16 h1.f_ID, .bool h1.f_DF, .bool h1.f_MF, .int .u16 h1.f_Frag, .int .u8 h1.f_TTL, .int .u8 h1.f_Proto, .int .u8 (List.getD h1.f_Src 0 0), .int .u8 (List.getD h1.f_Src 1 0), .int .u8 (List.getD h1.f_Src 2 0), .int .u8 (List.getD h1.f_Src 3 0), .int .u8 (List.getD h1.f_Dst 0 0), .int .u8 (List.getD h1.f_Dst 1 0), .int .u8 (List.getD h1.f_Dst 2 0), .int .u8 (List.getD h1.f_Dst 3 0), .slice A2 (h1.f_Options).length c3], .row A51 c52 5 1 (y47).length ((y47).flatMap (eI .u8))] ∧ F_law05_IpBack_j3 h1 behind5 y47 y55 t118 = some r) ?_ ?_
              · refine KC.region ?_
                refine RL.val (O.move rfl) rfl ?_
                refine RL.val (O.gtr rfl rfl) rfl ?_
                refine RL.val (O.move rfl) rfl ?_
                refine RL.bcase (t := 94) rfl (fun hc => ?_) (fun hc => ?_)
                · rw [if_pos hc] at hF
                  refine RL.gval rfl rfl (O.move rfl) rfl ?_
                  refine RL.gval rfl rfl (O.neq rfl rfl) rfl ?_
                  refine RL.val (O.pickt rfl rfl) rfl ?_
                  refine RL.val (O.move rfl) rfl ?_
                  refine RL.bcase (t := 98) rfl (fun hc => ?_) (fun hc => ?_)
                  · rw [if_pos hc] at hF
                    refine RL.gval rfl rfl (O.move rfl) rfl ?_
                    refine RL.gval rfl rfl (O.neq rfl rfl) rfl ?_
                    refine RL.val (O.pickt rfl rfl) rfl ?_
                    refine RL.val (O.move rfl) rfl ?_
                    refine RL.bcase (t := 102) rfl (fun hc => ?_) (fun hc => ?_)
                    · rw [if_pos hc] at hF
                      refine RL.gval rfl rfl (O.move rfl) rfl ?_
                      refine RL.gval rfl rfl (O.eql rfl rfl) rfl ?_
                      refine RL.val (O.pickt rfl rfl) rfl ?_
                      refine RL.val (O.move rfl) rfl ?_
                      refine RL.bcase (t := 106) rfl (fun hc => ?_) (fun hc => ?_)
                      · rw [if_pos hc] at hF
                        refine RL.gval rfl rfl (O.loadN (cs := [.int .u8 y100.1.f_TOS, .int .u16 y100.1.f_Total, .int .u16 y100.1.f_ID, .bool y100.1.f_DF, .bool y100.1.f_MF, .int .u16 y100.1.f_Frag, .int .u8 y100.1.f_TTL, .int .u8 y100.1.f_Proto, .int .u8 (List.getD y100.1.f_Src 0 0), .int .u8 (List.getD y100.1.f_Src 1 0), .int .u8 (List.getD y100.1.f_Src 2 0), .int .u8 (List.getD y100.1.f_Src 3 0), .int .u8 (List.getD y100.1.f_Dst 0 0), .int .u8 (List.getD y100.1.f_Dst 1 0), .int .u8 (List.getD y100.1.f_Dst 2 0), .int .u8 (List.getD y100.1.f_Dst 3 0), .slice A104 (y100.1.f_Options).length c105]) ag39 rfl (Cs.addsN [] ((hM.bx (i := 3) rfl)) rfl)) rfl ?_
                        refine RL.gval rfl rfl (O.loadN (cs := [.int .u8 h1.f_TOS, .int .u16 h1.f_Total, .int .u16 h1.f_ID, .bool h1.f_DF, .bool h1.f_MF, .int .u16 h1.f_Frag, .int .u8 h1.f_TTL, .int .u8 h1.f_Proto, .int .u8 (List.getD h1.f_Src 0 0), .int .u8 (List.getD h1.f_Src 1 0), .int .u8 (List.getD h1.f_Src 2 0), .int .u8 (List.getD h1.f_Src 3 0), .int .u8 (List.getD h1.f_Dst 0 0), .int .u8 (List.getD h1.f_Dst 1 0), .int .u8 (List.getD h1.f_Dst 2 0), .int .u8 (List.getD h1.f_Dst 3 0), .slice A2 (h1.f_Options).length c3]) ag39 rfl (Cs.addsN [] ((hM.bx (i := 0) rfl)) rfl)) rfl ?_
                        refine obindE hF fun y112 hx113 hF => ?_
                        refine RL.gcall rfl rfl Try.func17 bd17 rfl rfl (c_ip_Same _ y100.1 _ _ (hM.rd (i := 2) rfl) h1 _ _ (hM.inp hr4 Off.nil) _ hx113) fun v w114 hv => ?_
                        obtain ⟨rfl, hN115⟩ := hv
                        replace hM := hM.call0 hN115
                        refine RL.val (O.pickt rfl rfl) rfl ?_
                        refine RL.nil ?_
                        refine KQ.then_k ?_
                        replace hM := hM.pick [0, 1] rfl (by decide)
                        exact fun a ha => ⟨y112, ha.less (less_cons rfl (less_cons rfl (less_cons rfl (less_cons rfl (less_cons rfl less_nil))))), hM, hF⟩
                      · rw [if_neg (ne_true hc)] at hF
                        refine RL.brun1 4 110 false (by kernel_rfl) ?_
                        refine RL.nil ?_
                        refine KQ.then_k ?_
                        replace hM := hM.pick [0, 1] rfl (by decide)
                        exact fun a ha => ⟨false, ha.less (less_cons rfl (less_cons rfl (less_cons rfl (less_cons rfl (less_cons rfl less_nil))))), hM, hF⟩
                    · rw [if_neg (ne_true hc)] at hF
                      refine RL.brun1 8 110 false (by kernel_rfl) ?_
                      refine RL.nil ?_
                      refine KQ.then_k ?_
                      replace hM := hM.pick [0, 1] rfl (by decide)
                      exact fun a ha => ⟨false, ha.less (less_cons rfl (less_cons rfl (less_cons rfl (less_cons rfl (less_cons rfl less_nil))))), hM, hF⟩
                  · rw [if_neg (ne_true hc)] at hF
                    refine RL.brun1 12 110 false (by kernel_rfl) ?_
                    refine RL.nil ?_
                    refine KQ.then_k ?_
                    replace hM := hM.pick [0, 1] rfl (by decide)
                    exact fun a ha => ⟨false, ha.less (less_cons rfl (less_cons rfl (less_cons rfl (less_cons rfl (less_cons rfl less_nil))))), hM, hF⟩
                · rw [if_neg (ne_true hc)] at hF
                  refine RL.brun1 16 110 false (by kernel_rfl) ?_
                  refine RL.nil ?_
                  refine KQ.then_k ?_
                  replace hM := hM.pick [0, 1] rfl (by decide)
                  exact fun a ha => ⟨false, ha.less (less_cons rfl (less_cons rfl (less_cons rfl (less_cons rfl (less_cons rfl less_nil))))), hM, hF⟩
              · rintro a w119 ⟨t118, ha, hM, hF⟩
                refine KC.app ha ?_
                clear ha
                unfold F_law05_IpBack_j3 at hF
                refine KC.cond rfl (fun hc => ?_) (fun hc => ?_)
                · rw [if_pos hc] at hF
                  refine KC.seqH fun Q120 hQ120 => ?_
                  refine KC.region ?_
                  refine RL.val (O.assign rfl) rfl ?_
                  refine RL.nil ?_
                  refine KQ.thn hQ120 ?_
                  clear hQ120 Q120
                  refine KC.ret ?_
                  refine KQ.thr hQ111 ?_
                  clear hQ111 Q111
                  have hE := Option.some.inj hF
                  clear hF
                  subst hE
                  replace hM := hM.pick [] rfl (by decide)
                  refine KQ.rets Try.results5 (RVs.cons (RV.tm rfl) RVs.nil) ?_
                  exact ⟨_, rfl, rfl, hM⟩
                · rw [if_neg (ne_true hc)] at hF
                  refine KC.skip ?_
                  refine KQ.thn hQ111 ?_
                  clear hQ111 Q111
                  refine KC.seqH fun Q121 hQ121 => ?_
                  refine KC.region ?_
                  refine RL.val (O.move rfl) rfl ?_
                  refine obindE hF fun y122 hx123 hF => ?_
                  refine RL.call Try.func21 bd21 rfl rfl (c_ip_Hop _ _ _ y47 (hM.rd (i := 1) rfl) _ hx123) fun v w124 hv => ?_
                  obtain ⟨A126, c127, rfl, hN125⟩ := hv
                  replace hM := hM.call hN125
                  refine RL.val (O.move rfl) rfl ?_
                  refine RL.val (O.ext rfl rfl) rfl ?_
                  refine RL.val (O.ext rfl rfl) rfl ?_
                  refine RL.val (O.assign rfl) rfl ?_
                  refine RL.val (O.assign rfl) rfl ?_
                  refine RL.nil ?_
                  refine KQ.thn hQ121 ?_
                  clear hQ121 Q121
                  refine KC.seqH fun Q129 hQ129 => ?_
                  refine KC.seqH fun Q130 hQ130 => ?_
                  refine KC.region ?_
                  refine RL.val (O.fldA fl39_6 (by decide) rfl) rfl ?_
                  refine RL.val (O.load sc5 rfl (Cs.adds [6] ((hM.bx (i := 0) rfl)) rfl)) rfl ?_
                  refine RL.val (O.eql rfl rfl) rfl ?_
                  refine RL.nil ?_
                  refine KQ.thn hQ130 ?_
                  clear hQ130 Q130
                  refine KC.cond rfl (fun hc => ?_) (fun hc => ?_)
                  · rw [if_pos hc] at hF
                    refine KC.cut (fun a w136 => ∃ (t135 : Bool), Kn 177 [(8, .bool t135)] a ∧ Mem w [] w136 [] ∧ F_law05_IpBack_j4 t135 = some r) ?_ ?_
                    · refine KC.region ?_
                      refine RL.val (O.move rfl) rfl ?_
                      refine RL.val (O.eql rfl rfl) rfl ?_
                      refine RL.val (O.move rfl) rfl ?_
                      refine RL.bcase (t := 121) rfl (fun hc => ?_) (fun hc => ?_)
                      · rw [if_pos hc] at hF
                        refine obindE hF fun y131 hx132 hF => ?_
                        refine RL.gcall rfl rfl Try.func8 bd8 rfl rfl (c_law05_works _ _ hx132) fun v w133 hv => ?_
                        obtain ⟨rfl, hN134⟩ := hv
                        replace hM := hM.call0 hN134
                        refine RL.val (O.pickt rfl rfl) rfl ?_
                        refine RL.val (O.assign rfl) rfl ?_
                        refine RL.nil ?_
                        refine KQ.then_k ?_
                        replace hM := hM.pick [] rfl (by decide)
                        exact fun a ha => ⟨y131, ha.less (less_cons rfl less_nil), hM, hF⟩
                      · rw [if_neg (ne_true hc)] at hF
                        refine RL.gskip rfl rfl rfl rfl ?_
                        refine RL.val (O.pickf rfl rfl) rfl ?_
                        refine RL.val (O.assign rfl) rfl ?_
                        refine RL.nil ?_
                        refine KQ.then_k ?_
                        replace hM := hM.pick [] rfl (by decide)
                        exact fun a ha => ⟨false, ha.less (less_cons rfl less_nil), hM, hF⟩
                    · rintro a w136 ⟨t135, ha, hM, hF⟩
                      refine KC.app ha ?_
                      clear ha
                      unfold F_law05_IpBack_j4 at hF
                      refine KC.ret ?_
                      refine KQ.thr hQ129 ?_
                      clear hQ129 Q129
                      have hE := Option.some.inj hF
                      clear hF
                      subst hE
                      refine KQ.rets Try.results5 (RVs.cons (RV.tm rfl) RVs.nil) ?_
                      exact ⟨_, rfl, rfl, hM⟩
                  · rw [if_neg (ne_true hc)] at hF
                    refine KC.skip ?_
                    refine KQ.thn hQ129 ?_
                    clear hQ129 Q129
                    refine KC.seqH fun Q137 hQ137 => ?_
                    refine KC.region ?_
                    refine RL.val (O.move rfl) rfl ?_
                    refine obindE hF fun y138 hx139 hF => ?_
                    refine RL.call Try.func19 bd19 rfl rfl (c_ip_Parse _ _ _ y122.1 (hM.rd (i := 2) rfl) _ hx139) fun v w140 hv => ?_
                    obtain ⟨A142, c143, rfl, hN141⟩ := hv
                    replace hM := hM.call hN141
                    refine RL.val (O.move rfl) rfl ?_
                    refine RL.val (O.ext rfl rfl) rfl ?_
                    refine RL.val (O.ext rfl rfl) rfl ?_
                    refine RL.val (O.ext rfl rfl) rfl ?_
                    refine RL.eff (E.alloc hM ze39) rfl fun v w146 hv => ?_
                    clear hM
                    obtain ⟨g145, rfl, hM, hf⟩ := hv
                    refine RL.effs (E.stB (j := 4) (off := 0) (vs := [.int .u8 y138.1.f_TOS, .int .u16 y138.1.f_Total, .int .u16 y138.1.f_ID, .bool y138.1.f_DF, .bool y138.1.f_MF, .int .u16 y138.1.f_Frag, .int .u8 y138.1.f_TTL, .int .u8 y138.1.f_Proto, .int .u8 (List.getD y138.1.f_Src 0 0), .int .u8 (List.getD y138.1.f_Src 1 0), .int .u8 (List.getD y138.1.f_Src 2 0), .int .u8 (List.getD y138.1.f_Src 3 0), .int .u8 (List.getD y138.1.f_Dst 0 0), .int .u8 (List.getD y138.1.f_Dst 1 0), .int .u8 (List.getD y138.1.f_Dst 2 0), .int .u8 (List.getD y138.1.f_Dst 3 0), .slice A142 (y138.1.f_Options).length c143]) (cs' := [.int .u8 y138.1.f_TOS, .int .u16 y138.1.f_Total, .int .u16 y138.1.f_ID, .bool y138.1.f_DF, .bool y138.1.f_MF, .int .u16 y138.1.f_Frag, .int .u8 y138.1.f_TTL, .int .u8 y138.1.f_Proto, .int .u8 (List.getD y138.1.f_Src 0 0), .int .u8 (List.getD y138.1.f_Src 1 0), .int .u8 (List.getD y138.1.f_Src 2 0), .int .u8 (List.getD y138.1.f_Src 3 0), .int .u8 (List.getD y138.1.f_Dst 0 0), .int .u8 (List.getD y138.1.f_Dst 1 0), .int .u8 (List.getD y138.1.f_Dst 2 0), .int .u8 (List.getD y138.1.f_Dst 3 0), .slice A142 (y138.1.f_Options).length c143]) hM rfl sz39 rfl (adds_eq [] rfl) rfl rfl (One.all rfl) rfl rfl) fun w148 hM1 => ?_
                    clear hM
                    have hM := hM1
                    clear hM1
                    refine RL.val (O.assign rfl) rfl ?_
                    refine RL.val (O.assign rfl) rfl ?_
                    refine RL.nil ?_
                    refine KQ.thn hQ137 ?_
                    clear hQ137 Q137
                    refine KC.seqH fun Q149 hQ149 => ?_
                    refine KC.cut (fun a w159 => ∃ (t158 : Bool), Kn 177 [(1, .slice A6 (behind5).length c7), (4, .pointer (some ⟨g12, 0, none⟩)), (13, .int .i64 y55.2.1), (19, .slice A126 (y122.1).length c127), (21, .pointer (some ⟨g145, 0, none⟩)), (160, .bool t158)] a ∧ Mem w [] w159 [.box g12 39 [.int .u8 h1.f_TOS, .int .u16 h1.f_Total, .int .u16 h1.f_ID, .bool h1.f_DF, .bool h1.f_MF, .int .u16 h1.f_Frag, .int .u8 h1.f_TTL, .int .u8 h1.f_Proto, .int .u8 (List.getD h1.f_Src 0 0), .int .u8 (List.getD h1.f_Src 1 0), .int .u8 (List.getD h1.f_Src 2 0), .int .u8 (List.getD h1.f_Src 3 0), .int .u8 (List.getD h1.f_Dst 0 0), .int .u8 (List.getD h1.f_Dst 1 0), .int .u8 (List.getD h1.f_Dst 2 0), .int .u8 (List.getD h1.f_Dst 3 0), .slice A2 (h1.f_Options).length c3], .row A126 c127 5 1 (y122.1).length ((y122.1).flatMap (eI .u8)), .row A142 c143 5 1 (y138.1.f_Options).length ((y138.1.f_Options).flatMap (eI .u8)), .box g145 39 [.int .u8 y138.1.f_TOS, .int .u16 y138.1.f_Total, .int .u16 y138.1.f_ID, .bool y138.1.f_DF, .bool y138.1.f_MF, .int .u16 y138.1.f_Frag, .int .u8 y138.1.f_TTL, .int .u8 y138.1.f_Proto, .int .u8 (List.getD y138.1.f_Src 0 0), .int .u8 (List.getD y138.1.f_Src 1 0), .int .u8 (List.getD y138.1.f_Src 2 0), .int .u8 (List.getD y138.1.f_Src 3 0), .int .u8 (List.getD y138.1.f_Dst 0 0), .int .u8 (List.getD y138.1.f_Dst 1 0), .int .u8 (List.getD y138.1.f_Dst 2 0), .int .u8 (List.getD y138.1.f_Dst 3 0), .slice A142 (y138.1.f_Options).length c143]] ∧ F_law05_IpBack_j5 h1 behind5 y55 y122 y138 t158 = some r) ?_ ?_
                    · refine KC.region ?_
                      refine RL.val (O.move rfl) rfl ?_
                      refine RL.val (O.neq rfl rfl) rfl ?_
                      refine RL.val (O.move rfl) rfl ?_
                      refine RL.bcase (t := 132) rfl (fun hc => ?_) (fun hc => ?_)
                      · rw [if_pos hc] at hF
                        refine RL.brun1 28 160 true (by kernel_rfl) ?_
                        refine RL.nil ?_
                        refine KQ.then_k ?_
                        replace hM := hM.pick [0, 2, 3, 4] rfl (by decide)
                        exact fun a ha => ⟨true, ha.less (less_cons rfl (less_cons rfl (less_cons rfl (less_cons rfl (less_cons rfl (less_cons rfl less_nil)))))), hM, hF⟩
                      · rw [if_neg (ne_true hc)] at hF
                        refine RL.gval rfl rfl (O.move rfl) rfl ?_
                        refine RL.gval rfl rfl (O.neq rfl rfl) rfl ?_
                        refine RL.val (O.pickf rfl rfl) rfl ?_
                        refine RL.val (O.move rfl) rfl ?_
                        refine RL.bcase (t := 136) rfl (fun hc => ?_) (fun hc => ?_)
                        · rw [if_pos hc] at hF
                          refine RL.brun1 24 160 true (by kernel_rfl) ?_
                          refine RL.nil ?_
                          refine KQ.then_k ?_
                          replace hM := hM.pick [0, 2, 3, 4] rfl (by decide)
                          exact fun a ha => ⟨true, ha.less (less_cons rfl (less_cons rfl (less_cons rfl (less_cons rfl (less_cons rfl (less_cons rfl less_nil)))))), hM, hF⟩
                        · rw [if_neg (ne_true hc)] at hF
                          refine RL.gval rfl rfl (O.move rfl) rfl ?_
                          refine RL.gval rfl rfl (O.move rfl) rfl ?_
                          refine RL.gval rfl rfl (O.neq rfl rfl) rfl ?_
                          refine RL.val (O.pickf rfl rfl) rfl ?_
                          refine RL.val (O.move rfl) rfl ?_
                          refine RL.bcase (t := 141) rfl (fun hc => ?_) (fun hc => ?_)
                          · rw [if_pos hc] at hF
                            refine RL.brun1 19 160 true (by kernel_rfl) ?_
                            refine RL.nil ?_
                            refine KQ.then_k ?_
                            replace hM := hM.pick [0, 2, 3, 4] rfl (by decide)
                            exact fun a ha => ⟨true, ha.less (less_cons rfl (less_cons rfl (less_cons rfl (less_cons rfl (less_cons rfl (less_cons rfl less_nil)))))), hM, hF⟩
                          · rw [if_neg (ne_true hc)] at hF
                            refine RL.gval rfl rfl (O.move rfl) rfl ?_
                            refine RL.gval rfl rfl (O.len sl22 rfl) rfl ?_
                            refine RL.gval rfl rfl (O.move rfl) rfl ?_
                            refine RL.gval rfl rfl (O.len sl22 rfl) rfl ?_
                            refine RL.gval rfl rfl (O.neq rfl rfl) rfl ?_
                            refine RL.val (O.pickf rfl rfl) rfl ?_
                            refine RL.val (O.move rfl) rfl ?_
                            refine RL.bcase (t := 148) rfl (fun hc => ?_) (fun hc => ?_)
                            · rw [if_pos hc] at hF
                              refine RL.brun1 12 160 true (by kernel_rfl) ?_
                              refine RL.nil ?_
                              refine KQ.then_k ?_
                              replace hM := hM.pick [0, 2, 3, 4] rfl (by decide)
                              exact fun a ha => ⟨true, ha.less (less_cons rfl (less_cons rfl (less_cons rfl (less_cons rfl (less_cons rfl (less_cons rfl less_nil)))))), hM, hF⟩
                            · rw [if_neg (ne_true hc)] at hF
                              refine RL.gval rfl rfl (O.fldA fl39_6 (by decide) rfl) rfl ?_
                              refine RL.gval rfl rfl (O.load sc5 rfl (Cs.adds [6] ((hM.bx (i := 4) rfl)) rfl)) rfl ?_
                              refine RL.gval rfl rfl (O.fldA fl39_6 (by decide) rfl) rfl ?_
                              refine RL.gval rfl rfl (O.load sc5 rfl (Cs.adds [6] ((hM.bx (i := 0) rfl)) rfl)) rfl ?_
                              refine RL.gval rfl rfl (O.sub rfl rfl) rfl ?_
                              refine RL.gval rfl rfl (O.neq rfl rfl) rfl ?_
                              refine RL.val (O.pickf rfl rfl) rfl ?_
                              refine RL.val (O.move rfl) rfl ?_
                              refine RL.bcase (t := 156) rfl (fun hc => ?_) (fun hc => ?_)
                              · rw [if_pos hc] at hF
                                refine RL.brun1 4 160 true (by kernel_rfl) ?_
                                refine RL.nil ?_
                                refine KQ.then_k ?_
                                replace hM := hM.pick [0, 2, 3, 4] rfl (by decide)
                                exact fun a ha => ⟨true, ha.less (less_cons rfl (less_cons rfl (less_cons rfl (less_cons rfl (less_cons rfl (less_cons rfl less_nil)))))), hM, hF⟩
                              · rw [if_neg (ne_true hc)] at hF
                                refine RL.gval rfl rfl (O.loadN (cs := [.int .u8 y138.1.f_TOS, .int .u16 y138.1.f_Total, .int .u16 y138.1.f_ID, .bool y138.1.f_DF, .bool y138.1.f_MF, .int .u16 y138.1.f_Frag, .int .u8 y138.1.f_TTL, .int .u8 y138.1.f_Proto, .int .u8 (List.getD y138.1.f_Src 0 0), .int .u8 (List.getD y138.1.f_Src 1 0), .int .u8 (List.getD y138.1.f_Src 2 0), .int .u8 (List.getD y138.1.f_Src 3 0), .int .u8 (List.getD y138.1.f_Dst 0 0), .int .u8 (List.getD y138.1.f_Dst 1 0), .int .u8 (List.getD y138.1.f_Dst 2 0), .int .u8 (List.getD y138.1.f_Dst 3 0), .slice A142 (y138.1.f_Options).length c143]) ag39 rfl (Cs.addsN [] ((hM.bx (i := 4) rfl)) rfl)) rfl ?_
                                refine obindE hF fun y150 hx151 hF => ?_
                                refine RL.gcall rfl rfl Try.func15 bd15 rfl rfl (c_ip_Right _ y138.1 _ _ (hM.rd (i := 3) rfl) _ hx151) fun v w152 hv => ?_
                                obtain ⟨rfl, hN153⟩ := hv
                                replace hM := hM.call0 hN153
                                refine RL.gval rfl rfl (O.not rfl) rfl ?_
                                refine RL.val (O.pickf rfl rfl) rfl ?_
                                refine RL.nil ?_
                                refine KQ.then_k ?_
                                replace hM := hM.pick [0, 2, 3, 4] rfl (by decide)
                                exact fun a ha => ⟨(!y150), ha.less (less_cons rfl (less_cons rfl (less_cons rfl (less_cons rfl (less_cons rfl (less_cons rfl less_nil)))))), hM, hF⟩
                    · rintro a w159 ⟨t158, ha, hM, hF⟩
                      refine KC.app ha ?_
                      clear ha
                      unfold F_law05_IpBack_j5 at hF
                      refine KC.cond rfl (fun hc => ?_) (fun hc => ?_)
                      · rw [if_pos hc] at hF
                        refine KC.seqH fun Q160 hQ160 => ?_
                        refine KC.region ?_
                        refine RL.val (O.assign rfl) rfl ?_
                        refine RL.nil ?_
                        refine KQ.thn hQ160 ?_
                        clear hQ160 Q160
                        refine KC.ret ?_
                        refine KQ.thr hQ149 ?_
                        clear hQ149 Q149
                        have hE := Option.some.inj hF
                        clear hF
                        subst hE
                        replace hM := hM.pick [] rfl (by decide)
                        refine KQ.rets Try.results5 (RVs.cons (RV.tm rfl) RVs.nil) ?_
                        exact ⟨_, rfl, rfl, hM⟩
                      · rw [if_neg (ne_true hc)] at hF
                        refine KC.skip ?_
                        refine KQ.thn hQ149 ?_
                        clear hQ149 Q149
                        refine KC.seqH fun Q161 hQ161 => ?_
                        refine KC.region ?_
                        refine RL.val (O.fldA fl39_6 (by decide) rfl) rfl ?_
                        refine RL.val (O.load sc5 rfl (Cs.adds [6] ((hM.bx (i := 0) rfl)) rfl)) rfl ?_
                        refine RL.val (O.fldA fl39_6 (by decide) rfl) rfl ?_
                        refine RL.effs (E.stB (j := 3) (off := 6) (vs := [.int .u8 h1.f_TTL]) (cs' := [.int .u8 y138.1.f_TOS, .int .u16 y138.1.f_Total, .int .u16 y138.1.f_ID, .bool y138.1.f_DF, .bool y138.1.f_MF, .int .u16 y138.1.f_Frag, .int .u8 h1.f_TTL, .int .u8 y138.1.f_Proto, .int .u8 (List.getD y138.1.f_Src 0 0), .int .u8 (List.getD y138.1.f_Src 1 0), .int .u8 (List.getD y138.1.f_Src 2 0), .int .u8 (List.getD y138.1.f_Src 3 0), .int .u8 (List.getD y138.1.f_Dst 0 0), .int .u8 (List.getD y138.1.f_Dst 1 0), .int .u8 (List.getD y138.1.f_Dst 2 0), .int .u8 (List.getD y138.1.f_Dst 3 0), .slice A142 (y138.1.f_Options).length c143]) hM rfl sz5 rfl (adds_eq [6] rfl) rfl rfl (One.all rfl) rfl rfl) fun w162 hM1 => ?_
                        clear hM
                        have hM := hM1
                        clear hM1
                        refine RL.nil ?_
                        refine KQ.thn hQ161 ?_
                        clear hQ161 Q161
                        refine KC.cut (fun a w183 => ∃ (t182 : Bool), Kn 177 [(8, .bool t182)] a ∧ Mem w [] w183 [] ∧ F_law05_IpBack_j6 t182 = some r) ?_ ?_
                        · refine KC.region ?_
                          refine RL.val (O.loadN (cs := [.int .u8 y138.1.f_TOS, .int .u16 y138.1.f_Total, .int .u16 y138.1.f_ID, .bool y138.1.f_DF, .bool y138.1.f_MF, .int .u16 y138.1.f_Frag, .int .u8 h1.f_TTL, .int .u8 y138.1.f_Proto, .int .u8 (List.getD y138.1.f_Src 0 0), .int .u8 (List.getD y138.1.f_Src 1 0), .int .u8 (List.getD y138.1.f_Src 2 0), .int .u8 (List.getD y138.1.f_Src 3 0), .int .u8 (List.getD y138.1.f_Dst 0 0), .int .u8 (List.getD y138.1.f_Dst 1 0), .int .u8 (List.getD y138.1.f_Dst 2 0), .int .u8 (List.getD y138.1.f_Dst 3 0), .slice A142 (y138.1.f_Options).length c143]) ag39 rfl (Cs.addsN [] ((hM.bx (i := 3) rfl)) rfl)) rfl ?_
                          refine RL.val (O.loadN (cs := [.int .u8 h1.f_TOS, .int .u16 h1.f_Total, .int .u16 h1.f_ID, .bool h1.f_DF, .bool h1.f_MF, .int .u16 h1.f_Frag, .int .u8 h1.f_TTL, .int .u8 h1.f_Proto, .int .u8 (List.getD h1.f_Src 0 0), .int .u8 (List.getD h1.f_Src 1 0), .int .u8 (List.getD h1.f_Src 2 0), .int .u8 (List.getD h1.f_Src 3 0), .int .u8 (List.getD h1.f_Dst 0 0), .int .u8 (List.getD h1.f_Dst 1 0), .int .u8 (List.getD h1.f_Dst 2 0), .int .u8 (List.getD h1.f_Dst 3 0), .slice A2 (h1.f_Options).length c3]) ag39 rfl (Cs.addsN [] ((hM.bx (i := 0) rfl)) rfl)) rfl ?_
                          refine obindE hF fun y163 hx164 hF => ?_
                          refine RL.call Try.func17 bd17 rfl rfl (c_ip_Same _ (T_ip_Header.mk y138.1.f_TOS y138.1.f_Total y138.1.f_ID y138.1.f_DF y138.1.f_MF y138.1.f_Frag h1.f_TTL y138.1.f_Proto y138.1.f_Src y138.1.f_Dst y138.1.f_Options) _ _ (hM.rd (i := 2) rfl) h1 _ _ (hM.inp hr4 Off.nil) _ hx164) fun v w165 hv => ?_
                          obtain ⟨rfl, hN166⟩ := hv
                          replace hM := hM.call0 hN166
                          refine RL.val (O.move rfl) rfl ?_
                          refine RL.bcase (t := 167) rfl (fun hc => ?_) (fun hc => ?_)
                          · rw [if_pos hc] at hF
                            refine RL.gval rfl rfl (O.move rfl) rfl ?_
                            refine RL.gval rfl rfl (O.move rfl) rfl ?_
                            refine obindE hF fun cut167 hy168 hF => ?_
                            refine cutNE A126 c127 (Int.toNat y55.2.1) 1 fun A169 c170 eA172 ec173 => ?_
                            have hr171 := Rd.cutT (enc := (eI .u8)) (s := 1) (fun _ => rfl) (hM.rd (i := 1) rfl) hy168 (m := c127) (by have := (hM.rd (i := 1) rfl).cap; have := (gcut_some hy168).2.2.1; omega) (Nat.le_refl _)
                            rw [← eA172, ← ec173] at hr171
                            refine RL.gval (v := .slice A169 (cut167).length c170) rfl rfl (by rw [eA172, ec173]; exact O.cutlT sl22 (hM.rd (i := 1) rfl) hy168 rfl rfl) rfl ?_
                            refine RL.gval rfl rfl (O.move rfl) rfl ?_
                            refine obindE hF fun y174 hx175 hF => ?_
                            refine RL.gcall rfl rfl Try.func14 bd14 rfl rfl (c_ref01_Same _ _ _ cut167 hr171 _ _ behind5 (hM.inp hr8 Off.nil) _ hx175) fun v w176 hv => ?_
                            obtain ⟨rfl, hN177⟩ := hv
                            have hr171 := hr171.fut hN177.fut
                            replace hM := hM.call0 hN177
                            refine RL.val (O.pickt rfl rfl) rfl ?_
                            refine RL.val (O.move rfl) rfl ?_
                            refine RL.bcase (t := 174) rfl (fun hc => ?_) (fun hc => ?_)
                            · rw [if_pos hc] at hF
                              refine obindE hF fun y178 hx179 hF => ?_
                              refine RL.gcall rfl rfl Try.func8 bd8 rfl rfl (c_law05_works _ _ hx179) fun v w180 hv => ?_
                              obtain ⟨rfl, hN181⟩ := hv
                              have hr171 := hr171.fut hN181.fut
                              replace hM := hM.call0 hN181
                              refine RL.val (O.pickt rfl rfl) rfl ?_
                              refine RL.val (O.assign rfl) rfl ?_
                              refine RL.nil ?_
                              refine KQ.then_k ?_
                              replace hM := hM.pick [] rfl (by decide)
                              exact fun a ha => ⟨y178, ha.less (less_cons rfl less_nil), hM, hF⟩
                            · rw [if_neg (ne_true hc)] at hF
                              refine RL.gskip rfl rfl rfl rfl ?_
                              refine RL.val (O.pickf rfl rfl) rfl ?_
                              refine RL.val (O.assign rfl) rfl ?_
                              refine RL.nil ?_
                              refine KQ.then_k ?_
                              replace hM := hM.pick [] rfl (by decide)
                              exact fun a ha => ⟨false, ha.less (less_cons rfl less_nil), hM, hF⟩
                          · rw [if_neg (ne_true hc)] at hF
                            refine RL.brun1 9 176 false (by kernel_rfl) ?_
                            refine RL.val (O.assign rfl) rfl ?_
                            refine RL.nil ?_
                            refine KQ.then_k ?_
                            replace hM := hM.pick [] rfl (by decide)
                            exact fun a ha => ⟨false, ha.less (less_cons rfl less_nil), hM, hF⟩
                        · rintro a w183 ⟨t182, ha, hM, hF⟩
                          refine KC.app ha ?_
                          clear ha
                          unfold F_law05_IpBack_j6 at hF
                          refine KC.ret ?_
                          have hE := Option.some.inj hF
                          clear hF
                          subst hE
                          refine KQ.rets Try.results5 (RVs.cons (RV.tm rfl) RVs.nil) ?_
                          exact ⟨_, rfl, rfl, hM⟩
end Go.Proofs.Ytjfdfjmnajjjaaa
