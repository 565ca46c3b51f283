/- Printed by a program of this claim: each call returns what the plain function of its name gives. -/
import Derived.Test.YteafnfoponjoeaaRW4
set_option linter.unusedVariables false
namespace Go.Proofs.Yteafnfoponjoeaa
open Go Go.Ox Go.RowKit
set_option maxRecDepth 100000 in
set_option maxHeartbeats 40000000 in
theorem c_ref08_Right (w : World) (kv1 : T_ref08_Key) (r : Bool) (hF : F_ref08_Right kv1 = some r) :
    CallsR Try.prog 31 [.agg #[.bool kv1.f_Src.f_Six, .int .u8 (List.getD kv1.f_Src.f_B 0 0), .int .u8 (List.getD kv1.f_Src.f_B 1 0), .int .u8 (List.getD kv1.f_Src.f_B 2 0), .int .u8 (List.getD kv1.f_Src.f_B 3 0), .int .u8 (List.getD kv1.f_Src.f_B 4 0), .int .u8 (List.getD kv1.f_Src.f_B 5 0), .int .u8 (List.getD kv1.f_Src.f_B 6 0), .int .u8 (List.getD kv1.f_Src.f_B 7 0), .int .u8 (List.getD kv1.f_Src.f_B 8 0), .int .u8 (List.getD kv1.f_Src.f_B 9 0), .int .u8 (List.getD kv1.f_Src.f_B 10 0), .int .u8 (List.getD kv1.f_Src.f_B 11 0), .int .u8 (List.getD kv1.f_Src.f_B 12 0), .int .u8 (List.getD kv1.f_Src.f_B 13 0), .int .u8 (List.getD kv1.f_Src.f_B 14 0), .int .u8 (List.getD kv1.f_Src.f_B 15 0), .bool kv1.f_Dst.f_Six, .int .u8 (List.getD kv1.f_Dst.f_B 0 0), .int .u8 (List.getD kv1.f_Dst.f_B 1 0), .int .u8 (List.getD kv1.f_Dst.f_B 2 0), .int .u8 (List.getD kv1.f_Dst.f_B 3 0), .int .u8 (List.getD kv1.f_Dst.f_B 4 0), .int .u8 (List.getD kv1.f_Dst.f_B 5 0), .int .u8 (List.getD kv1.f_Dst.f_B 6 0), .int .u8 (List.getD kv1.f_Dst.f_B 7 0), .int .u8 (List.getD kv1.f_Dst.f_B 8 0), .int .u8 (List.getD kv1.f_Dst.f_B 9 0), .int .u8 (List.getD kv1.f_Dst.f_B 10 0), .int .u8 (List.getD kv1.f_Dst.f_B 11 0), .int .u8 (List.getD kv1.f_Dst.f_B 12 0), .int .u8 (List.getD kv1.f_Dst.f_B 13 0), .int .u8 (List.getD kv1.f_Dst.f_B 14 0), .int .u8 (List.getD kv1.f_Dst.f_B 15 0), .int .u8 kv1.f_Proto, .int .u16 kv1.f_SrcPort, .int .u16 kv1.f_DstPort]] w (fun v w' => v = .bool r ∧ Mem w [] w' []) := by
  refine calls_KC Try.func31 rfl Try.ntmps31 rfl ?_
  have hM := Mem.init w
  unfold F_ref08_Right at hF
  refine KC.seq ?_
  refine KC.region ?_
  refine RL.eff (E.box (vs := [.bool kv1.f_Src.f_Six, .int .u8 (List.getD kv1.f_Src.f_B 0 0), .int .u8 (List.getD kv1.f_Src.f_B 1 0), .int .u8 (List.getD kv1.f_Src.f_B 2 0), .int .u8 (List.getD kv1.f_Src.f_B 3 0), .int .u8 (List.getD kv1.f_Src.f_B 4 0), .int .u8 (List.getD kv1.f_Src.f_B 5 0), .int .u8 (List.getD kv1.f_Src.f_B 6 0), .int .u8 (List.getD kv1.f_Src.f_B 7 0), .int .u8 (List.getD kv1.f_Src.f_B 8 0), .int .u8 (List.getD kv1.f_Src.f_B 9 0), .int .u8 (List.getD kv1.f_Src.f_B 10 0), .int .u8 (List.getD kv1.f_Src.f_B 11 0), .int .u8 (List.getD kv1.f_Src.f_B 12 0), .int .u8 (List.getD kv1.f_Src.f_B 13 0), .int .u8 (List.getD kv1.f_Src.f_B 14 0), .int .u8 (List.getD kv1.f_Src.f_B 15 0), .bool kv1.f_Dst.f_Six, .int .u8 (List.getD kv1.f_Dst.f_B 0 0), .int .u8 (List.getD kv1.f_Dst.f_B 1 0), .int .u8 (List.getD kv1.f_Dst.f_B 2 0), .int .u8 (List.getD kv1.f_Dst.f_B 3 0), .int .u8 (List.getD kv1.f_Dst.f_B 4 0), .int .u8 (List.getD kv1.f_Dst.f_B 5 0), .int .u8 (List.getD kv1.f_Dst.f_B 6 0), .int .u8 (List.getD kv1.f_Dst.f_B 7 0), .int .u8 (List.getD kv1.f_Dst.f_B 8 0), .int .u8 (List.getD kv1.f_Dst.f_B 9 0), .int .u8 (List.getD kv1.f_Dst.f_B 10 0), .int .u8 (List.getD kv1.f_Dst.f_B 11 0), .int .u8 (List.getD kv1.f_Dst.f_B 12 0), .int .u8 (List.getD kv1.f_Dst.f_B 13 0), .int .u8 (List.getD kv1.f_Dst.f_B 14 0), .int .u8 (List.getD kv1.f_Dst.f_B 15 0), .int .u8 kv1.f_Proto, .int .u16 kv1.f_SrcPort, .int .u16 kv1.f_DstPort]) hM rfl rfl) rfl fun v w3 hv => ?_
  clear hM
  obtain ⟨g2, rfl, hM, hf⟩ := hv
  refine RL.val (O.assign rfl) rfl ?_
  refine RL.nil ?_
  refine KQ.then_n ?_
  refine KC.seq ?_
  refine KC.cut (fun a w15 => ∃ (t14 : Bool), Kn 40 [(1, .pointer (some ⟨g2, 0, none⟩)), (21, .bool t14)] a ∧ Mem w [] w15 [.box g2 45 [.bool kv1.f_Src.f_Six, .int .u8 (List.getD kv1.f_Src.f_B 0 0), .int .u8 (List.getD kv1.f_Src.f_B 1 0), .int .u8 (List.getD kv1.f_Src.f_B 2 0), .int .u8 (List.getD kv1.f_Src.f_B 3 0), .int .u8 (List.getD kv1.f_Src.f_B 4 0), .int .u8 (List.getD kv1.f_Src.f_B 5 0), .int .u8 (List.getD kv1.f_Src.f_B 6 0), .int .u8 (List.getD kv1.f_Src.f_B 7 0), .int .u8 (List.getD kv1.f_Src.f_B 8 0), .int .u8 (List.getD kv1.f_Src.f_B 9 0), .int .u8 (List.getD kv1.f_Src.f_B 10 0), .int .u8 (List.getD kv1.f_Src.f_B 11 0), .int .u8 (List.getD kv1.f_Src.f_B 12 0), .int .u8 (List.getD kv1.f_Src.f_B 13 0), .int .u8 (List.getD kv1.f_Src.f_B 14 0), .int .u8 (List.getD kv1.f_Src.f_B 15 0), .bool kv1.f_Dst.f_Six, .int .u8 (List.getD kv1.f_Dst.f_B 0 0), .int .u8 (List.getD kv1.f_Dst.f_B 1 0), .int .u8 (List.getD kv1.f_Dst.f_B 2 0), .int .u8 (List.getD kv1.f_Dst.f_B 3 0), .int .u8 (List.getD kv1.f_Dst.f_B 4 0), .int .u8 (List.getD kv1.f_Dst.f_B 5 0), .int .u8 (List.getD kv1.f_Dst.f_B 6 0), .int .u8 (List.getD kv1.f_Dst.f_B 7 0), .int .u8 (List.getD kv1.f_Dst.f_B 8 0), .int .u8 (List.getD kv1.f_Dst.f_B 9 0), .int .u8 (List.getD kv1.f_Dst.f_B 10 0), .int .u8 (List.getD kv1.f_Dst.f_B 11 0), .int .u8 (List.getD kv1.f_Dst.f_B 12 0), .int .u8 (List.getD kv1.f_Dst.f_B 13 0), .int .u8 (List.getD kv1.f_Dst.f_B 14 0), .int .u8 (List.getD kv1.f_Dst.f_B 15 0), .int .u8 kv1.f_Proto, .int .u16 kv1.f_SrcPort, .int .u16 kv1.f_DstPort]] ∧ F_ref08_Right_j1 kv1 t14 = some r) ?_ ?_
  · refine KC.region ?_
    refine RL.val (O.fldA fl45_0 (by decide) rfl) rfl ?_
    refine RL.val (O.loadN (cs := [.bool kv1.f_Src.f_Six, .int .u8 (List.getD kv1.f_Src.f_B 0 0), .int .u8 (List.getD kv1.f_Src.f_B 1 0), .int .u8 (List.getD kv1.f_Src.f_B 2 0), .int .u8 (List.getD kv1.f_Src.f_B 3 0), .int .u8 (List.getD kv1.f_Src.f_B 4 0), .int .u8 (List.getD kv1.f_Src.f_B 5 0), .int .u8 (List.getD kv1.f_Src.f_B 6 0), .int .u8 (List.getD kv1.f_Src.f_B 7 0), .int .u8 (List.getD kv1.f_Src.f_B 8 0), .int .u8 (List.getD kv1.f_Src.f_B 9 0), .int .u8 (List.getD kv1.f_Src.f_B 10 0), .int .u8 (List.getD kv1.f_Src.f_B 11 0), .int .u8 (List.getD kv1.f_Src.f_B 12 0), .int .u8 (List.getD kv1.f_Src.f_B 13 0), .int .u8 (List.getD kv1.f_Src.f_B 14 0), .int .u8 (List.getD kv1.f_Src.f_B 15 0)]) ag43 rfl (Cs.addsN [0] ((hM.bx (i := 0) rfl)) rfl)) rfl ?_
    refine obindE hF fun y5 hx6 hF => ?_
    refine RL.call Try.func42 bd42 rfl rfl (c_ref04_Right _ kv1.f_Src _ hx6) fun v w7 hv => ?_
    obtain ⟨rfl, hN8⟩ := hv
    replace hM := hM.call0 hN8
    refine RL.val (O.not rfl) rfl ?_
    refine RL.val (O.move rfl) rfl ?_
    refine RL.bcase (t := 7) rfl (fun hc => ?_) (fun hc => ?_)
    · rw [if_pos hc] at hF
      refine RL.brun1 14 21 true (by kernel_rfl) ?_
      refine RL.nil ?_
      refine KQ.then_k ?_
      exact fun a ha => ⟨true, ha.less (less_cons rfl (less_cons rfl less_nil)), hM, hF⟩
    · rw [if_neg (ne_true hc)] at hF
      refine RL.gval rfl rfl (O.fldA fl45_1 (by decide) rfl) rfl ?_
      refine RL.gval rfl rfl (O.loadN (cs := [.bool kv1.f_Dst.f_Six, .int .u8 (List.getD kv1.f_Dst.f_B 0 0), .int .u8 (List.getD kv1.f_Dst.f_B 1 0), .int .u8 (List.getD kv1.f_Dst.f_B 2 0), .int .u8 (List.getD kv1.f_Dst.f_B 3 0), .int .u8 (List.getD kv1.f_Dst.f_B 4 0), .int .u8 (List.getD kv1.f_Dst.f_B 5 0), .int .u8 (List.getD kv1.f_Dst.f_B 6 0), .int .u8 (List.getD kv1.f_Dst.f_B 7 0), .int .u8 (List.getD kv1.f_Dst.f_B 8 0), .int .u8 (List.getD kv1.f_Dst.f_B 9 0), .int .u8 (List.getD kv1.f_Dst.f_B 10 0), .int .u8 (List.getD kv1.f_Dst.f_B 11 0), .int .u8 (List.getD kv1.f_Dst.f_B 12 0), .int .u8 (List.getD kv1.f_Dst.f_B 13 0), .int .u8 (List.getD kv1.f_Dst.f_B 14 0), .int .u8 (List.getD kv1.f_Dst.f_B 15 0)]) ag43 rfl (Cs.addsN [17] ((hM.bx (i := 0) rfl)) rfl)) rfl ?_
      refine obindE hF fun y9 hx10 hF => ?_
      refine RL.gcall rfl rfl Try.func42 bd42 rfl rfl (c_ref04_Right _ kv1.f_Dst _ hx10) fun v w11 hv => ?_
      obtain ⟨rfl, hN12⟩ := hv
      replace hM := hM.call0 hN12
      refine RL.gval rfl rfl (O.not rfl) rfl ?_
      refine RL.val (O.pickf rfl rfl) rfl ?_
      refine RL.val (O.move rfl) rfl ?_
      refine RL.bcase (t := 13) rfl (fun hc => ?_) (fun hc => ?_)
      · rw [if_pos hc] at hF
        refine RL.brun1 8 21 true (by kernel_rfl) ?_
        refine RL.nil ?_
        refine KQ.then_k ?_
        exact fun a ha => ⟨true, ha.less (less_cons rfl (less_cons rfl less_nil)), hM, hF⟩
      · rw [if_neg (ne_true hc)] at hF
        refine RL.gval rfl rfl (O.fldA fl45_0 (by decide) rfl) rfl ?_
        refine RL.gval rfl rfl (O.fldA fl43_0 (by decide) rfl) rfl ?_
        refine RL.gval rfl rfl (O.load sc4 rfl (Cs.adds [0, 0] ((hM.bx (i := 0) rfl)) rfl)) rfl ?_
        refine RL.gval rfl rfl (O.fldA fl45_1 (by decide) rfl) rfl ?_
        refine RL.gval rfl rfl (O.fldA fl43_0 (by decide) rfl) rfl ?_
        refine RL.gval rfl rfl (O.load sc4 rfl (Cs.adds [17, 0] ((hM.bx (i := 0) rfl)) rfl)) rfl ?_
        refine RL.gval rfl rfl (O.neqb Try.underlying4 rfl rfl) rfl ?_
        refine RL.val (O.pickf rfl rfl) rfl ?_
        refine RL.nil ?_
        refine KQ.then_k ?_
        exact fun a ha => ⟨(!(kv1.f_Src.f_Six == kv1.f_Dst.f_Six)), ha.less (less_cons rfl (less_cons rfl less_nil)), hM, hF⟩
  · rintro a w15 ⟨t14, ha, hM, hF⟩
    refine KC.app ha ?_
    clear ha
    unfold F_ref08_Right_j1 at hF
    refine KC.cond rfl (fun hc => ?_) (fun hc => ?_)
    · rw [if_pos hc] at hF
      refine KC.seq ?_
      refine KC.region ?_
      refine RL.val (O.assign rfl) rfl ?_
      refine RL.nil ?_
      refine KQ.then_n ?_
      refine KC.ret ?_
      refine KQ.then_r ?_
      obtain rfl := Option.some.inj hF
      replace hM := hM.pick [] rfl (by decide)
      refine KQ.rets Try.results31 (RVs.cons (RV.tm rfl) RVs.nil) ?_
      exact ⟨_, rfl, rfl, hM⟩
    · rw [if_neg (ne_true hc)] at hF
      refine KC.skip ?_
      refine KQ.then_n ?_
      refine KC.cut (fun a w25 => ∃ (t24 : Bool), Kn 40 [(2, .bool t24)] a ∧ Mem w [] w25 [] ∧ F_ref08_Right_j2 t24 = some r) ?_ ?_
      · refine KC.region ?_
        refine RL.val (O.fldA fl45_2 (by decide) rfl) rfl ?_
        refine RL.val (O.load sc5 rfl (Cs.adds [34] ((hM.bx (i := 0) rfl)) rfl)) rfl ?_
        refine obindE hF fun y16 hx17 hF => ?_
        refine RL.call Try.func43 bd43 rfl rfl (c_ref08_ports _ kv1.f_Proto _ hx17) fun v w18 hv => ?_
        obtain ⟨rfl, hN19⟩ := hv
        replace hM := hM.call0 hN19
        refine RL.val (O.move rfl) rfl ?_
        refine RL.bcase (t := 25) rfl (fun hc => ?_) (fun hc => ?_)
        · rw [if_pos hc] at hF
          refine RL.brun1 14 39 true (by kernel_rfl) ?_
          refine RL.val (O.assign rfl) rfl ?_
          refine RL.nil ?_
          refine KQ.then_k ?_
          replace hM := hM.pick [] rfl (by decide)
          exact fun a ha => ⟨true, ha.less (less_cons rfl less_nil), hM, hF⟩
        · rw [if_neg (ne_true hc)] at hF
          refine RL.gval rfl rfl (O.fldA fl45_3 (by decide) rfl) rfl ?_
          refine RL.gval rfl rfl (O.load sc25 rfl (Cs.adds [35] ((hM.bx (i := 0) rfl)) rfl)) rfl ?_
          refine RL.gval rfl rfl (O.eql rfl rfl) rfl ?_
          refine RL.gval rfl rfl (O.move rfl) rfl ?_
          refine RL.bcase (t := 29) rfl (fun hc => ?_) (fun hc => ?_)
          · rw [if_pos hc] at hF
            refine RL.gval rfl rfl (O.fldA fl45_2 (by decide) rfl) rfl ?_
            refine RL.gval rfl rfl (O.load sc5 rfl (Cs.adds [34] ((hM.bx (i := 0) rfl)) rfl)) rfl ?_
            refine obindE hF fun y20 hx21 hF => ?_
            refine RL.gcall rfl rfl Try.func44 bd44 rfl rfl (c_ref08_icmp _ kv1.f_Proto _ hx21) fun v w22 hv => ?_
            obtain ⟨rfl, hN23⟩ := hv
            replace hM := hM.call0 hN23
            refine RL.gval rfl rfl (O.move rfl) rfl ?_
            refine RL.bcase (t := 33) rfl (fun hc => ?_) (fun hc => ?_)
            · rw [if_pos hc] at hF
              refine RL.gskip rfl rfl rfl rfl ?_
              refine RL.gskip rfl rfl rfl rfl ?_
              refine RL.gskip rfl rfl rfl rfl ?_
              refine RL.gval rfl rfl (O.pickt rfl rfl) rfl ?_
              refine RL.gval rfl rfl (O.pickt rfl rfl) rfl ?_
              refine RL.val (O.pickf rfl rfl) rfl ?_
              refine RL.val (O.assign rfl) rfl ?_
              refine RL.nil ?_
              refine KQ.then_k ?_
              replace hM := hM.pick [] rfl (by decide)
              exact fun a ha => ⟨true, ha.less (less_cons rfl less_nil), hM, hF⟩
            · rw [if_neg (ne_true hc)] at hF
              refine RL.gval rfl rfl (O.fldA fl45_4 (by decide) rfl) rfl ?_
              refine RL.gval rfl rfl (O.load sc25 rfl (Cs.adds [36] ((hM.bx (i := 0) rfl)) rfl)) rfl ?_
              refine RL.gval rfl rfl (O.eql rfl rfl) rfl ?_
              refine RL.gval rfl rfl (O.pickf rfl rfl) rfl ?_
              refine RL.gval rfl rfl (O.pickt rfl rfl) rfl ?_
              refine RL.val (O.pickf rfl rfl) rfl ?_
              refine RL.val (O.assign rfl) rfl ?_
              refine RL.nil ?_
              refine KQ.then_k ?_
              replace hM := hM.pick [] rfl (by decide)
              exact fun a ha => ⟨(kv1.f_DstPort == 0), ha.less (less_cons rfl less_nil), hM, hF⟩
          · rw [if_neg (ne_true hc)] at hF
            refine RL.gskip rfl rfl rfl rfl ?_
            refine RL.gskip rfl rfl rfl rfl ?_
            refine RL.gskip rfl rfl rfl rfl ?_
            refine RL.gskip rfl rfl rfl rfl ?_
            refine RL.gskip' rfl rfl rfl ?_
            refine RL.gskip' rfl rfl rfl ?_
            refine RL.gskip' rfl rfl rfl ?_
            refine RL.gskip rfl rfl rfl rfl ?_
            refine RL.gval rfl rfl (O.pickf rfl rfl) rfl ?_
            refine RL.val (O.pickf rfl rfl) rfl ?_
            refine RL.val (O.assign rfl) rfl ?_
            refine RL.nil ?_
            refine KQ.then_k ?_
            replace hM := hM.pick [] rfl (by decide)
            exact fun a ha => ⟨false, ha.less (less_cons rfl less_nil), hM, hF⟩
      · rintro a w25 ⟨t24, ha, hM, hF⟩
        refine KC.app ha ?_
        clear ha
        unfold F_ref08_Right_j2 at hF
        refine KC.ret ?_
        obtain rfl := Option.some.inj hF
        refine KQ.rets Try.results31 (RVs.cons (RV.tm rfl) RVs.nil) ?_
        exact ⟨_, rfl, rfl, hM⟩
set_option maxRecDepth 100000 in
set_option maxHeartbeats 40000000 in
theorem c_ref22_Right (w : World) (rv1 : T_ref22_Record) (r : Bool) (hF : F_ref22_Right rv1 = some r) :
    CallsR Try.prog 13 [.agg #[.bool rv1.f_Key.f_Src.f_Six, .int .u8 (List.getD rv1.f_Key.f_Src.f_B 0 0), .int .u8 (List.getD rv1.f_Key.f_Src.f_B 1 0), .int .u8 (List.getD rv1.f_Key.f_Src.f_B 2 0), .int .u8 (List.getD rv1.f_Key.f_Src.f_B 3 0), .int .u8 (List.getD rv1.f_Key.f_Src.f_B 4 0), .int .u8 (List.getD rv1.f_Key.f_Src.f_B 5 0), .int .u8 (List.getD rv1.f_Key.f_Src.f_B 6 0), .int .u8 (List.getD rv1.f_Key.f_Src.f_B 7 0), .int .u8 (List.getD rv1.f_Key.f_Src.f_B 8 0), .int .u8 (List.getD rv1.f_Key.f_Src.f_B 9 0), .int .u8 (List.getD rv1.f_Key.f_Src.f_B 10 0), .int .u8 (List.getD rv1.f_Key.f_Src.f_B 11 0), .int .u8 (List.getD rv1.f_Key.f_Src.f_B 12 0), .int .u8 (List.getD rv1.f_Key.f_Src.f_B 13 0), .int .u8 (List.getD rv1.f_Key.f_Src.f_B 14 0), .int .u8 (List.getD rv1.f_Key.f_Src.f_B 15 0), .bool rv1.f_Key.f_Dst.f_Six, .int .u8 (List.getD rv1.f_Key.f_Dst.f_B 0 0), .int .u8 (List.getD rv1.f_Key.f_Dst.f_B 1 0), .int .u8 (List.getD rv1.f_Key.f_Dst.f_B 2 0), .int .u8 (List.getD rv1.f_Key.f_Dst.f_B 3 0), .int .u8 (List.getD rv1.f_Key.f_Dst.f_B 4 0), .int .u8 (List.getD rv1.f_Key.f_Dst.f_B 5 0), .int .u8 (List.getD rv1.f_Key.f_Dst.f_B 6 0), .int .u8 (List.getD rv1.f_Key.f_Dst.f_B 7 0), .int .u8 (List.getD rv1.f_Key.f_Dst.f_B 8 0), .int .u8 (List.getD rv1.f_Key.f_Dst.f_B 9 0), .int .u8 (List.getD rv1.f_Key.f_Dst.f_B 10 0), .int .u8 (List.getD rv1.f_Key.f_Dst.f_B 11 0), .int .u8 (List.getD rv1.f_Key.f_Dst.f_B 12 0), .int .u8 (List.getD rv1.f_Key.f_Dst.f_B 13 0), .int .u8 (List.getD rv1.f_Key.f_Dst.f_B 14 0), .int .u8 (List.getD rv1.f_Key.f_Dst.f_B 15 0), .int .u8 rv1.f_Key.f_Proto, .int .u16 rv1.f_Key.f_SrcPort, .int .u16 rv1.f_Key.f_DstPort, .int .u64 rv1.f_Packets, .int .u64 rv1.f_Bytes, .int .u64 rv1.f_First, .int .u64 rv1.f_Last, .int .u8 rv1.f_Flags, .int .u8 rv1.f_Reason, .int .u8 rv1.f_Class]] w (fun v w' => v = .bool r ∧ Mem w [] w' []) := by
  refine calls_KC Try.func13 rfl Try.ntmps13 rfl ?_
  have hM := Mem.init w
  unfold F_ref22_Right at hF
  refine KC.seq ?_
  refine KC.region ?_
  refine RL.eff (E.box (vs := [.bool rv1.f_Key.f_Src.f_Six, .int .u8 (List.getD rv1.f_Key.f_Src.f_B 0 0), .int .u8 (List.getD rv1.f_Key.f_Src.f_B 1 0), .int .u8 (List.getD rv1.f_Key.f_Src.f_B 2 0), .int .u8 (List.getD rv1.f_Key.f_Src.f_B 3 0), .int .u8 (List.getD rv1.f_Key.f_Src.f_B 4 0), .int .u8 (List.getD rv1.f_Key.f_Src.f_B 5 0), .int .u8 (List.getD rv1.f_Key.f_Src.f_B 6 0), .int .u8 (List.getD rv1.f_Key.f_Src.f_B 7 0), .int .u8 (List.getD rv1.f_Key.f_Src.f_B 8 0), .int .u8 (List.getD rv1.f_Key.f_Src.f_B 9 0), .int .u8 (List.getD rv1.f_Key.f_Src.f_B 10 0), .int .u8 (List.getD rv1.f_Key.f_Src.f_B 11 0), .int .u8 (List.getD rv1.f_Key.f_Src.f_B 12 0), .int .u8 (List.getD rv1.f_Key.f_Src.f_B 13 0), .int .u8 (List.getD rv1.f_Key.f_Src.f_B 14 0), .int .u8 (List.getD rv1.f_Key.f_Src.f_B 15 0), .bool rv1.f_Key.f_Dst.f_Six, .int .u8 (List.getD rv1.f_Key.f_Dst.f_B 0 0), .int .u8 (List.getD rv1.f_Key.f_Dst.f_B 1 0), .int .u8 (List.getD rv1.f_Key.f_Dst.f_B 2 0), .int .u8 (List.getD rv1.f_Key.f_Dst.f_B 3 0), .int .u8 (List.getD rv1.f_Key.f_Dst.f_B 4 0), .int .u8 (List.getD rv1.f_Key.f_Dst.f_B 5 0), .int .u8 (List.getD rv1.f_Key.f_Dst.f_B 6 0), .int .u8 (List.getD rv1.f_Key.f_Dst.f_B 7 0), .int .u8 (List.getD rv1.f_Key.f_Dst.f_B 8 0), .int .u8 (List.getD rv1.f_Key.f_Dst.f_B 9 0), .int .u8 (List.getD rv1.f_Key.f_Dst.f_B 10 0), .int .u8 (List.getD rv1.f_Key.f_Dst.f_B 11 0), .int .u8 (List.getD rv1.f_Key.f_Dst.f_B 12 0), .int .u8 (List.getD rv1.f_Key.f_Dst.f_B 13 0), .int .u8 (List.getD rv1.f_Key.f_Dst.f_B 14 0), .int .u8 (List.getD rv1.f_Key.f_Dst.f_B 15 0), .int .u8 rv1.f_Key.f_Proto, .int .u16 rv1.f_Key.f_SrcPort, .int .u16 rv1.f_Key.f_DstPort, .int .u64 rv1.f_Packets, .int .u64 rv1.f_Bytes, .int .u64 rv1.f_First, .int .u64 rv1.f_Last, .int .u8 rv1.f_Flags, .int .u8 rv1.f_Reason, .int .u8 rv1.f_Class]) hM rfl rfl) rfl fun v w3 hv => ?_
  clear hM
  obtain ⟨g2, rfl, hM, hf⟩ := hv
  refine RL.val (O.assign rfl) rfl ?_
  refine RL.nil ?_
  refine KQ.then_n ?_
  refine KC.cut (fun a w10 => ∃ (t9 : Bool), Kn 28 [(2, .bool t9)] a ∧ Mem w [] w10 [] ∧ F_ref22_Right_j1 t9 = some r) ?_ ?_
  · refine KC.region ?_
    refine RL.val (O.fldA fl47_0 (by decide) rfl) rfl ?_
    refine RL.val (O.loadN (cs := [.bool rv1.f_Key.f_Src.f_Six, .int .u8 (List.getD rv1.f_Key.f_Src.f_B 0 0), .int .u8 (List.getD rv1.f_Key.f_Src.f_B 1 0), .int .u8 (List.getD rv1.f_Key.f_Src.f_B 2 0), .int .u8 (List.getD rv1.f_Key.f_Src.f_B 3 0), .int .u8 (List.getD rv1.f_Key.f_Src.f_B 4 0), .int .u8 (List.getD rv1.f_Key.f_Src.f_B 5 0), .int .u8 (List.getD rv1.f_Key.f_Src.f_B 6 0), .int .u8 (List.getD rv1.f_Key.f_Src.f_B 7 0), .int .u8 (List.getD rv1.f_Key.f_Src.f_B 8 0), .int .u8 (List.getD rv1.f_Key.f_Src.f_B 9 0), .int .u8 (List.getD rv1.f_Key.f_Src.f_B 10 0), .int .u8 (List.getD rv1.f_Key.f_Src.f_B 11 0), .int .u8 (List.getD rv1.f_Key.f_Src.f_B 12 0), .int .u8 (List.getD rv1.f_Key.f_Src.f_B 13 0), .int .u8 (List.getD rv1.f_Key.f_Src.f_B 14 0), .int .u8 (List.getD rv1.f_Key.f_Src.f_B 15 0), .bool rv1.f_Key.f_Dst.f_Six, .int .u8 (List.getD rv1.f_Key.f_Dst.f_B 0 0), .int .u8 (List.getD rv1.f_Key.f_Dst.f_B 1 0), .int .u8 (List.getD rv1.f_Key.f_Dst.f_B 2 0), .int .u8 (List.getD rv1.f_Key.f_Dst.f_B 3 0), .int .u8 (List.getD rv1.f_Key.f_Dst.f_B 4 0), .int .u8 (List.getD rv1.f_Key.f_Dst.f_B 5 0), .int .u8 (List.getD rv1.f_Key.f_Dst.f_B 6 0), .int .u8 (List.getD rv1.f_Key.f_Dst.f_B 7 0), .int .u8 (List.getD rv1.f_Key.f_Dst.f_B 8 0), .int .u8 (List.getD rv1.f_Key.f_Dst.f_B 9 0), .int .u8 (List.getD rv1.f_Key.f_Dst.f_B 10 0), .int .u8 (List.getD rv1.f_Key.f_Dst.f_B 11 0), .int .u8 (List.getD rv1.f_Key.f_Dst.f_B 12 0), .int .u8 (List.getD rv1.f_Key.f_Dst.f_B 13 0), .int .u8 (List.getD rv1.f_Key.f_Dst.f_B 14 0), .int .u8 (List.getD rv1.f_Key.f_Dst.f_B 15 0), .int .u8 rv1.f_Key.f_Proto, .int .u16 rv1.f_Key.f_SrcPort, .int .u16 rv1.f_Key.f_DstPort]) ag45 rfl (Cs.addsN [0] ((hM.bx (i := 0) rfl)) rfl)) rfl ?_
    refine obindE hF fun y5 hx6 hF => ?_
    refine RL.call Try.func31 bd31 rfl rfl (c_ref08_Right _ rv1.f_Key _ hx6) fun v w7 hv => ?_
    obtain ⟨rfl, hN8⟩ := hv
    replace hM := hM.call0 hN8
    refine RL.val (O.move rfl) rfl ?_
    refine RL.bcase (t := 6) rfl (fun hc => ?_) (fun hc => ?_)
    · rw [if_pos hc] at hF
      refine RL.gval rfl rfl (O.fldA fl47_1 (by decide) rfl) rfl ?_
      refine RL.gval rfl rfl (O.load sc30 rfl (Cs.adds [37] ((hM.bx (i := 0) rfl)) rfl)) rfl ?_
      refine RL.gval rfl rfl (O.geq rfl rfl) rfl ?_
      refine RL.val (O.pickt rfl rfl) rfl ?_
      refine RL.val (O.move rfl) rfl ?_
      refine RL.bcase (t := 11) rfl (fun hc => ?_) (fun hc => ?_)
      · rw [if_pos hc] at hF
        refine RL.gval rfl rfl (O.fldA fl47_3 (by decide) rfl) rfl ?_
        refine RL.gval rfl rfl (O.load sc30 rfl (Cs.adds [39] ((hM.bx (i := 0) rfl)) rfl)) rfl ?_
        refine RL.gval rfl rfl (O.fldA fl47_4 (by decide) rfl) rfl ?_
        refine RL.gval rfl rfl (O.load sc30 rfl (Cs.adds [40] ((hM.bx (i := 0) rfl)) rfl)) rfl ?_
        refine RL.gval rfl rfl (O.leq rfl rfl) rfl ?_
        refine RL.val (O.pickt rfl rfl) rfl ?_
        refine RL.val (O.move rfl) rfl ?_
        refine RL.bcase (t := 18) rfl (fun hc => ?_) (fun hc => ?_)
        · rw [if_pos hc] at hF
          refine RL.gval rfl rfl (O.fldA fl47_6 (by decide) rfl) rfl ?_
          refine RL.gval rfl rfl (O.load sc5 rfl (Cs.adds [42] ((hM.bx (i := 0) rfl)) rfl)) rfl ?_
          refine RL.gval rfl rfl (O.geq rfl rfl) rfl ?_
          refine RL.val (O.pickt rfl rfl) rfl ?_
          refine RL.val (O.move rfl) rfl ?_
          refine RL.bcase (t := 23) rfl (fun hc => ?_) (fun hc => ?_)
          · rw [if_pos hc] at hF
            refine RL.gval rfl rfl (O.fldA fl47_6 (by decide) rfl) rfl ?_
            refine RL.gval rfl rfl (O.load sc5 rfl (Cs.adds [42] ((hM.bx (i := 0) rfl)) rfl)) rfl ?_
            refine RL.gval rfl rfl (O.leq rfl rfl) rfl ?_
            refine RL.val (O.pickt rfl rfl) rfl ?_
            refine RL.val (O.assign rfl) rfl ?_
            refine RL.nil ?_
            refine KQ.then_k ?_
            replace hM := hM.pick [] rfl (by decide)
            exact fun a ha => ⟨(decide (rv1.f_Reason ≤ 5)), ha.less (less_cons rfl less_nil), hM, hF⟩
          · rw [if_neg (ne_true hc)] at hF
            refine RL.brun1 4 27 false (by kernel_rfl) ?_
            refine RL.val (O.assign rfl) rfl ?_
            refine RL.nil ?_
            refine KQ.then_k ?_
            replace hM := hM.pick [] rfl (by decide)
            exact fun a ha => ⟨false, ha.less (less_cons rfl less_nil), hM, hF⟩
        · rw [if_neg (ne_true hc)] at hF
          refine RL.brun1 9 27 false (by kernel_rfl) ?_
          refine RL.val (O.assign rfl) rfl ?_
          refine RL.nil ?_
          refine KQ.then_k ?_
          replace hM := hM.pick [] rfl (by decide)
          exact fun a ha => ⟨false, ha.less (less_cons rfl less_nil), hM, hF⟩
      · rw [if_neg (ne_true hc)] at hF
        refine RL.brun1 16 27 false (by kernel_rfl) ?_
        refine RL.val (O.assign rfl) rfl ?_
        refine RL.nil ?_
        refine KQ.then_k ?_
        replace hM := hM.pick [] rfl (by decide)
        exact fun a ha => ⟨false, ha.less (less_cons rfl less_nil), hM, hF⟩
    · rw [if_neg (ne_true hc)] at hF
      refine RL.brun1 21 27 false (by kernel_rfl) ?_
      refine RL.val (O.assign rfl) rfl ?_
      refine RL.nil ?_
      refine KQ.then_k ?_
      replace hM := hM.pick [] rfl (by decide)
      exact fun a ha => ⟨false, ha.less (less_cons rfl less_nil), hM, hF⟩
  · rintro a w10 ⟨t9, ha, hM, hF⟩
    refine KC.app ha ?_
    clear ha
    unfold F_ref22_Right_j1 at hF
    refine KC.ret ?_
    obtain rfl := Option.some.inj hF
    refine KQ.rets Try.results13 (RVs.cons (RV.tm rfl) RVs.nil) ?_
    exact ⟨_, rfl, rfl, hM⟩
set_option maxRecDepth 100000 in
set_option maxHeartbeats 40000000 in
theorem c_ref22_Start (w : World) (kv1 : T_ref08_Key) (class2 : Int) (tick3 : Int) (r : T_ref22_Record) (hF : F_ref22_Start kv1 class2 tick3 = some r) :
    CallsR Try.prog 14 [.agg #[.bool kv1.f_Src.f_Six, .int .u8 (List.getD kv1.f_Src.f_B 0 0), .int .u8 (List.getD kv1.f_Src.f_B 1 0), .int .u8 (List.getD kv1.f_Src.f_B 2 0), .int .u8 (List.getD kv1.f_Src.f_B 3 0), .int .u8 (List.getD kv1.f_Src.f_B 4 0), .int .u8 (List.getD kv1.f_Src.f_B 5 0), .int .u8 (List.getD kv1.f_Src.f_B 6 0), .int .u8 (List.getD kv1.f_Src.f_B 7 0), .int .u8 (List.getD kv1.f_Src.f_B 8 0), .int .u8 (List.getD kv1.f_Src.f_B 9 0), .int .u8 (List.getD kv1.f_Src.f_B 10 0), .int .u8 (List.getD kv1.f_Src.f_B 11 0), .int .u8 (List.getD kv1.f_Src.f_B 12 0), .int .u8 (List.getD kv1.f_Src.f_B 13 0), .int .u8 (List.getD kv1.f_Src.f_B 14 0), .int .u8 (List.getD kv1.f_Src.f_B 15 0), .bool kv1.f_Dst.f_Six, .int .u8 (List.getD kv1.f_Dst.f_B 0 0), .int .u8 (List.getD kv1.f_Dst.f_B 1 0), .int .u8 (List.getD kv1.f_Dst.f_B 2 0), .int .u8 (List.getD kv1.f_Dst.f_B 3 0), .int .u8 (List.getD kv1.f_Dst.f_B 4 0), .int .u8 (List.getD kv1.f_Dst.f_B 5 0), .int .u8 (List.getD kv1.f_Dst.f_B 6 0), .int .u8 (List.getD kv1.f_Dst.f_B 7 0), .int .u8 (List.getD kv1.f_Dst.f_B 8 0), .int .u8 (List.getD kv1.f_Dst.f_B 9 0), .int .u8 (List.getD kv1.f_Dst.f_B 10 0), .int .u8 (List.getD kv1.f_Dst.f_B 11 0), .int .u8 (List.getD kv1.f_Dst.f_B 12 0), .int .u8 (List.getD kv1.f_Dst.f_B 13 0), .int .u8 (List.getD kv1.f_Dst.f_B 14 0), .int .u8 (List.getD kv1.f_Dst.f_B 15 0), .int .u8 kv1.f_Proto, .int .u16 kv1.f_SrcPort, .int .u16 kv1.f_DstPort], .int .u8 class2, .int .u64 tick3] w (fun v w' => v = .agg #[.bool r.f_Key.f_Src.f_Six, .int .u8 (List.getD r.f_Key.f_Src.f_B 0 0), .int .u8 (List.getD r.f_Key.f_Src.f_B 1 0), .int .u8 (List.getD r.f_Key.f_Src.f_B 2 0), .int .u8 (List.getD r.f_Key.f_Src.f_B 3 0), .int .u8 (List.getD r.f_Key.f_Src.f_B 4 0), .int .u8 (List.getD r.f_Key.f_Src.f_B 5 0), .int .u8 (List.getD r.f_Key.f_Src.f_B 6 0), .int .u8 (List.getD r.f_Key.f_Src.f_B 7 0), .int .u8 (List.getD r.f_Key.f_Src.f_B 8 0), .int .u8 (List.getD r.f_Key.f_Src.f_B 9 0), .int .u8 (List.getD r.f_Key.f_Src.f_B 10 0), .int .u8 (List.getD r.f_Key.f_Src.f_B 11 0), .int .u8 (List.getD r.f_Key.f_Src.f_B 12 0), .int .u8 (List.getD r.f_Key.f_Src.f_B 13 0), .int .u8 (List.getD r.f_Key.f_Src.f_B 14 0), .int .u8 (List.getD r.f_Key.f_Src.f_B 15 0), .bool r.f_Key.f_Dst.f_Six, .int .u8 (List.getD r.f_Key.f_Dst.f_B 0 0), .int .u8 (List.getD r.f_Key.f_Dst.f_B 1 0), .int .u8 (List.getD r.f_Key.f_Dst.f_B 2 0), .int .u8 (List.getD r.f_Key.f_Dst.f_B 3 0), .int .u8 (List.getD r.f_Key.f_Dst.f_B 4 0), .int .u8 (List.getD r.f_Key.f_Dst.f_B 5 0), .int .u8 (List.getD r.f_Key.f_Dst.f_B 6 0), .int .u8 (List.getD r.f_Key.f_Dst.f_B 7 0), .int .u8 (List.getD r.f_Key.f_Dst.f_B 8 0), .int .u8 (List.getD r.f_Key.f_Dst.f_B 9 0), .int .u8 (List.getD r.f_Key.f_Dst.f_B 10 0), .int .u8 (List.getD r.f_Key.f_Dst.f_B 11 0), .int .u8 (List.getD r.f_Key.f_Dst.f_B 12 0), .int .u8 (List.getD r.f_Key.f_Dst.f_B 13 0), .int .u8 (List.getD r.f_Key.f_Dst.f_B 14 0), .int .u8 (List.getD r.f_Key.f_Dst.f_B 15 0), .int .u8 r.f_Key.f_Proto, .int .u16 r.f_Key.f_SrcPort, .int .u16 r.f_Key.f_DstPort, .int .u64 r.f_Packets, .int .u64 r.f_Bytes, .int .u64 r.f_First, .int .u64 r.f_Last, .int .u8 r.f_Flags, .int .u8 r.f_Reason, .int .u8 r.f_Class] ∧ Mem w [] w' []) := by
  refine calls_KC Try.func14 rfl Try.ntmps14 rfl ?_
  have hM := Mem.init w
  unfold F_ref22_Start at hF
  refine KC.seq ?_
  refine KC.region ?_
  refine RL.eff (E.box (vs := [.bool kv1.f_Src.f_Six, .int .u8 (List.getD kv1.f_Src.f_B 0 0), .int .u8 (List.getD kv1.f_Src.f_B 1 0), .int .u8 (List.getD kv1.f_Src.f_B 2 0), .int .u8 (List.getD kv1.f_Src.f_B 3 0), .int .u8 (List.getD kv1.f_Src.f_B 4 0), .int .u8 (List.getD kv1.f_Src.f_B 5 0), .int .u8 (List.getD kv1.f_Src.f_B 6 0), .int .u8 (List.getD kv1.f_Src.f_B 7 0), .int .u8 (List.getD kv1.f_Src.f_B 8 0), .int .u8 (List.getD kv1.f_Src.f_B 9 0), .int .u8 (List.getD kv1.f_Src.f_B 10 0), .int .u8 (List.getD kv1.f_Src.f_B 11 0), .int .u8 (List.getD kv1.f_Src.f_B 12 0), .int .u8 (List.getD kv1.f_Src.f_B 13 0), .int .u8 (List.getD kv1.f_Src.f_B 14 0), .int .u8 (List.getD kv1.f_Src.f_B 15 0), .bool kv1.f_Dst.f_Six, .int .u8 (List.getD kv1.f_Dst.f_B 0 0), .int .u8 (List.getD kv1.f_Dst.f_B 1 0), .int .u8 (List.getD kv1.f_Dst.f_B 2 0), .int .u8 (List.getD kv1.f_Dst.f_B 3 0), .int .u8 (List.getD kv1.f_Dst.f_B 4 0), .int .u8 (List.getD kv1.f_Dst.f_B 5 0), .int .u8 (List.getD kv1.f_Dst.f_B 6 0), .int .u8 (List.getD kv1.f_Dst.f_B 7 0), .int .u8 (List.getD kv1.f_Dst.f_B 8 0), .int .u8 (List.getD kv1.f_Dst.f_B 9 0), .int .u8 (List.getD kv1.f_Dst.f_B 10 0), .int .u8 (List.getD kv1.f_Dst.f_B 11 0), .int .u8 (List.getD kv1.f_Dst.f_B 12 0), .int .u8 (List.getD kv1.f_Dst.f_B 13 0), .int .u8 (List.getD kv1.f_Dst.f_B 14 0), .int .u8 (List.getD kv1.f_Dst.f_B 15 0), .int .u8 kv1.f_Proto, .int .u16 kv1.f_SrcPort, .int .u16 kv1.f_DstPort]) hM rfl rfl) rfl fun v w5 hv => ?_
  clear hM
  obtain ⟨g4, rfl, hM, hf⟩ := hv
  refine RL.eff (E.alloc hM ze47) rfl fun v w8 hv => ?_
  clear hM
  obtain ⟨g7, rfl, hM, hf⟩ := hv
  refine RL.nil ?_
  refine KQ.then_n ?_
  refine KC.seq ?_
  refine KC.region ?_
  refine RL.val (O.loadN (cs := [.bool kv1.f_Src.f_Six, .int .u8 (List.getD kv1.f_Src.f_B 0 0), .int .u8 (List.getD kv1.f_Src.f_B 1 0), .int .u8 (List.getD kv1.f_Src.f_B 2 0), .int .u8 (List.getD kv1.f_Src.f_B 3 0), .int .u8 (List.getD kv1.f_Src.f_B 4 0), .int .u8 (List.getD kv1.f_Src.f_B 5 0), .int .u8 (List.getD kv1.f_Src.f_B 6 0), .int .u8 (List.getD kv1.f_Src.f_B 7 0), .int .u8 (List.getD kv1.f_Src.f_B 8 0), .int .u8 (List.getD kv1.f_Src.f_B 9 0), .int .u8 (List.getD kv1.f_Src.f_B 10 0), .int .u8 (List.getD kv1.f_Src.f_B 11 0), .int .u8 (List.getD kv1.f_Src.f_B 12 0), .int .u8 (List.getD kv1.f_Src.f_B 13 0), .int .u8 (List.getD kv1.f_Src.f_B 14 0), .int .u8 (List.getD kv1.f_Src.f_B 15 0), .bool kv1.f_Dst.f_Six, .int .u8 (List.getD kv1.f_Dst.f_B 0 0), .int .u8 (List.getD kv1.f_Dst.f_B 1 0), .int .u8 (List.getD kv1.f_Dst.f_B 2 0), .int .u8 (List.getD kv1.f_Dst.f_B 3 0), .int .u8 (List.getD kv1.f_Dst.f_B 4 0), .int .u8 (List.getD kv1.f_Dst.f_B 5 0), .int .u8 (List.getD kv1.f_Dst.f_B 6 0), .int .u8 (List.getD kv1.f_Dst.f_B 7 0), .int .u8 (List.getD kv1.f_Dst.f_B 8 0), .int .u8 (List.getD kv1.f_Dst.f_B 9 0), .int .u8 (List.getD kv1.f_Dst.f_B 10 0), .int .u8 (List.getD kv1.f_Dst.f_B 11 0), .int .u8 (List.getD kv1.f_Dst.f_B 12 0), .int .u8 (List.getD kv1.f_Dst.f_B 13 0), .int .u8 (List.getD kv1.f_Dst.f_B 14 0), .int .u8 (List.getD kv1.f_Dst.f_B 15 0), .int .u8 kv1.f_Proto, .int .u16 kv1.f_SrcPort, .int .u16 kv1.f_DstPort]) ag45 rfl (Cs.addsN [] ((hM.bx (i := 0) rfl)) rfl)) rfl ?_
  refine RL.val (O.move rfl) rfl ?_
  refine RL.val (O.move rfl) rfl ?_
  refine RL.val (O.move rfl) rfl ?_
  refine RL.val (O.bld (cs := [.bool kv1.f_Src.f_Six, .int .u8 (List.getD kv1.f_Src.f_B 0 0), .int .u8 (List.getD kv1.f_Src.f_B 1 0), .int .u8 (List.getD kv1.f_Src.f_B 2 0), .int .u8 (List.getD kv1.f_Src.f_B 3 0), .int .u8 (List.getD kv1.f_Src.f_B 4 0), .int .u8 (List.getD kv1.f_Src.f_B 5 0), .int .u8 (List.getD kv1.f_Src.f_B 6 0), .int .u8 (List.getD kv1.f_Src.f_B 7 0), .int .u8 (List.getD kv1.f_Src.f_B 8 0), .int .u8 (List.getD kv1.f_Src.f_B 9 0), .int .u8 (List.getD kv1.f_Src.f_B 10 0), .int .u8 (List.getD kv1.f_Src.f_B 11 0), .int .u8 (List.getD kv1.f_Src.f_B 12 0), .int .u8 (List.getD kv1.f_Src.f_B 13 0), .int .u8 (List.getD kv1.f_Src.f_B 14 0), .int .u8 (List.getD kv1.f_Src.f_B 15 0), .bool kv1.f_Dst.f_Six, .int .u8 (List.getD kv1.f_Dst.f_B 0 0), .int .u8 (List.getD kv1.f_Dst.f_B 1 0), .int .u8 (List.getD kv1.f_Dst.f_B 2 0), .int .u8 (List.getD kv1.f_Dst.f_B 3 0), .int .u8 (List.getD kv1.f_Dst.f_B 4 0), .int .u8 (List.getD kv1.f_Dst.f_B 5 0), .int .u8 (List.getD kv1.f_Dst.f_B 6 0), .int .u8 (List.getD kv1.f_Dst.f_B 7 0), .int .u8 (List.getD kv1.f_Dst.f_B 8 0), .int .u8 (List.getD kv1.f_Dst.f_B 9 0), .int .u8 (List.getD kv1.f_Dst.f_B 10 0), .int .u8 (List.getD kv1.f_Dst.f_B 11 0), .int .u8 (List.getD kv1.f_Dst.f_B 12 0), .int .u8 (List.getD kv1.f_Dst.f_B 13 0), .int .u8 (List.getD kv1.f_Dst.f_B 14 0), .int .u8 (List.getD kv1.f_Dst.f_B 15 0), .int .u8 kv1.f_Proto, .int .u16 kv1.f_SrcPort, .int .u16 kv1.f_DstPort, .int .u64 0, .int .u64 0, .int .u64 tick3, .int .u64 tick3, .int .u8 0, .int .u8 0, .int .u8 class2]) bt47 rfl (by kernel_rfl)) rfl ?_
  refine RL.effs (E.stB (j := 1) (off := 0) (vs := [.bool kv1.f_Src.f_Six, .int .u8 (List.getD kv1.f_Src.f_B 0 0), .int .u8 (List.getD kv1.f_Src.f_B 1 0), .int .u8 (List.getD kv1.f_Src.f_B 2 0), .int .u8 (List.getD kv1.f_Src.f_B 3 0), .int .u8 (List.getD kv1.f_Src.f_B 4 0), .int .u8 (List.getD kv1.f_Src.f_B 5 0), .int .u8 (List.getD kv1.f_Src.f_B 6 0), .int .u8 (List.getD kv1.f_Src.f_B 7 0), .int .u8 (List.getD kv1.f_Src.f_B 8 0), .int .u8 (List.getD kv1.f_Src.f_B 9 0), .int .u8 (List.getD kv1.f_Src.f_B 10 0), .int .u8 (List.getD kv1.f_Src.f_B 11 0), .int .u8 (List.getD kv1.f_Src.f_B 12 0), .int .u8 (List.getD kv1.f_Src.f_B 13 0), .int .u8 (List.getD kv1.f_Src.f_B 14 0), .int .u8 (List.getD kv1.f_Src.f_B 15 0), .bool kv1.f_Dst.f_Six, .int .u8 (List.getD kv1.f_Dst.f_B 0 0), .int .u8 (List.getD kv1.f_Dst.f_B 1 0), .int .u8 (List.getD kv1.f_Dst.f_B 2 0), .int .u8 (List.getD kv1.f_Dst.f_B 3 0), .int .u8 (List.getD kv1.f_Dst.f_B 4 0), .int .u8 (List.getD kv1.f_Dst.f_B 5 0), .int .u8 (List.getD kv1.f_Dst.f_B 6 0), .int .u8 (List.getD kv1.f_Dst.f_B 7 0), .int .u8 (List.getD kv1.f_Dst.f_B 8 0), .int .u8 (List.getD kv1.f_Dst.f_B 9 0), .int .u8 (List.getD kv1.f_Dst.f_B 10 0), .int .u8 (List.getD kv1.f_Dst.f_B 11 0), .int .u8 (List.getD kv1.f_Dst.f_B 12 0), .int .u8 (List.getD kv1.f_Dst.f_B 13 0), .int .u8 (List.getD kv1.f_Dst.f_B 14 0), .int .u8 (List.getD kv1.f_Dst.f_B 15 0), .int .u8 kv1.f_Proto, .int .u16 kv1.f_SrcPort, .int .u16 kv1.f_DstPort, .int .u64 0, .int .u64 0, .int .u64 tick3, .int .u64 tick3, .int .u8 0, .int .u8 0, .int .u8 class2]) (cs' := [.bool kv1.f_Src.f_Six, .int .u8 (List.getD kv1.f_Src.f_B 0 0), .int .u8 (List.getD kv1.f_Src.f_B 1 0), .int .u8 (List.getD kv1.f_Src.f_B 2 0), .int .u8 (List.getD kv1.f_Src.f_B 3 0), .int .u8 (List.getD kv1.f_Src.f_B 4 0), .int .u8 (List.getD kv1.f_Src.f_B 5 0), .int .u8 (List.getD kv1.f_Src.f_B 6 0), .int .u8 (List.getD kv1.f_Src.f_B 7 0), .int .u8 (List.getD kv1.f_Src.f_B 8 0), .int .u8 (List.getD kv1.f_Src.f_B 9 0), .int .u8 (List.getD kv1.f_Src.f_B 10 0), .int .u8 (List.getD kv1.f_Src.f_B 11 0), .int .u8 (List.getD kv1.f_Src.f_B 12 0), .int .u8 (List.getD kv1.f_Src.f_B 13 0), .int .u8 (List.getD kv1.f_Src.f_B 14 0), .int .u8 (List.getD kv1.f_Src.f_B 15 0), .bool kv1.f_Dst.f_Six, .int .u8 (List.getD kv1.f_Dst.f_B 0 0), .int .u8 (List.getD kv1.f_Dst.f_B 1 0), .int .u8 (List.getD kv1.f_Dst.f_B 2 0), .int .u8 (List.getD kv1.f_Dst.f_B 3 0), .int .u8 (List.getD kv1.f_Dst.f_B 4 0), .int .u8 (List.getD kv1.f_Dst.f_B 5 0), .int .u8 (List.getD kv1.f_Dst.f_B 6 0), .int .u8 (List.getD kv1.f_Dst.f_B 7 0), .int .u8 (List.getD kv1.f_Dst.f_B 8 0), .int .u8 (List.getD kv1.f_Dst.f_B 9 0), .int .u8 (List.getD kv1.f_Dst.f_B 10 0), .int .u8 (List.getD kv1.f_Dst.f_B 11 0), .int .u8 (List.getD kv1.f_Dst.f_B 12 0), .int .u8 (List.getD kv1.f_Dst.f_B 13 0), .int .u8 (List.getD kv1.f_Dst.f_B 14 0), .int .u8 (List.getD kv1.f_Dst.f_B 15 0), .int .u8 kv1.f_Proto, .int .u16 kv1.f_SrcPort, .int .u16 kv1.f_DstPort, .int .u64 0, .int .u64 0, .int .u64 tick3, .int .u64 tick3, .int .u8 0, .int .u8 0, .int .u8 class2]) hM rfl sz47 rfl (adds_eq [] rfl) rfl rfl (One.all rfl) rfl rfl) fun w10 hM1 => ?_
  clear hM
  have hM := hM1
  clear hM1
  refine RL.nil ?_
  refine KQ.then_n ?_
  refine KC.ret ?_
  obtain rfl := Option.some.inj hF
  have hb11 := hM.bx (i := 1) rfl
  replace hM := hM.pick [] rfl (by decide)
  refine KQ.rets Try.results14 (RVs.cons (RV.cN (cs := [.bool kv1.f_Src.f_Six, .int .u8 (List.getD kv1.f_Src.f_B 0 0), .int .u8 (List.getD kv1.f_Src.f_B 1 0), .int .u8 (List.getD kv1.f_Src.f_B 2 0), .int .u8 (List.getD kv1.f_Src.f_B 3 0), .int .u8 (List.getD kv1.f_Src.f_B 4 0), .int .u8 (List.getD kv1.f_Src.f_B 5 0), .int .u8 (List.getD kv1.f_Src.f_B 6 0), .int .u8 (List.getD kv1.f_Src.f_B 7 0), .int .u8 (List.getD kv1.f_Src.f_B 8 0), .int .u8 (List.getD kv1.f_Src.f_B 9 0), .int .u8 (List.getD kv1.f_Src.f_B 10 0), .int .u8 (List.getD kv1.f_Src.f_B 11 0), .int .u8 (List.getD kv1.f_Src.f_B 12 0), .int .u8 (List.getD kv1.f_Src.f_B 13 0), .int .u8 (List.getD kv1.f_Src.f_B 14 0), .int .u8 (List.getD kv1.f_Src.f_B 15 0), .bool kv1.f_Dst.f_Six, .int .u8 (List.getD kv1.f_Dst.f_B 0 0), .int .u8 (List.getD kv1.f_Dst.f_B 1 0), .int .u8 (List.getD kv1.f_Dst.f_B 2 0), .int .u8 (List.getD kv1.f_Dst.f_B 3 0), .int .u8 (List.getD kv1.f_Dst.f_B 4 0), .int .u8 (List.getD kv1.f_Dst.f_B 5 0), .int .u8 (List.getD kv1.f_Dst.f_B 6 0), .int .u8 (List.getD kv1.f_Dst.f_B 7 0), .int .u8 (List.getD kv1.f_Dst.f_B 8 0), .int .u8 (List.getD kv1.f_Dst.f_B 9 0), .int .u8 (List.getD kv1.f_Dst.f_B 10 0), .int .u8 (List.getD kv1.f_Dst.f_B 11 0), .int .u8 (List.getD kv1.f_Dst.f_B 12 0), .int .u8 (List.getD kv1.f_Dst.f_B 13 0), .int .u8 (List.getD kv1.f_Dst.f_B 14 0), .int .u8 (List.getD kv1.f_Dst.f_B 15 0), .int .u8 kv1.f_Proto, .int .u16 kv1.f_SrcPort, .int .u16 kv1.f_DstPort, .int .u64 0, .int .u64 0, .int .u64 tick3, .int .u64 tick3, .int .u8 0, .int .u8 0, .int .u8 class2]) rfl ag47 hb11) RVs.nil) ?_
  exact ⟨_, rfl, rfl, hM⟩
set_option maxRecDepth 100000 in
set_option maxHeartbeats 40000000 in
theorem c_docs_Packet (w : World) (p1 : T_packet_Packet) (r : T_ref08_Packet) (hF : F_docs_Packet p1 = some r) :
    CallsR Try.prog 17 [.agg #[.bool p1.f_Key.f_Src.f_Six, .int .u8 (List.getD p1.f_Key.f_Src.f_B 0 0), .int .u8 (List.getD p1.f_Key.f_Src.f_B 1 0), .int .u8 (List.getD p1.f_Key.f_Src.f_B 2 0), .int .u8 (List.getD p1.f_Key.f_Src.f_B 3 0), .int .u8 (List.getD p1.f_Key.f_Src.f_B 4 0), .int .u8 (List.getD p1.f_Key.f_Src.f_B 5 0), .int .u8 (List.getD p1.f_Key.f_Src.f_B 6 0), .int .u8 (List.getD p1.f_Key.f_Src.f_B 7 0), .int .u8 (List.getD p1.f_Key.f_Src.f_B 8 0), .int .u8 (List.getD p1.f_Key.f_Src.f_B 9 0), .int .u8 (List.getD p1.f_Key.f_Src.f_B 10 0), .int .u8 (List.getD p1.f_Key.f_Src.f_B 11 0), .int .u8 (List.getD p1.f_Key.f_Src.f_B 12 0), .int .u8 (List.getD p1.f_Key.f_Src.f_B 13 0), .int .u8 (List.getD p1.f_Key.f_Src.f_B 14 0), .int .u8 (List.getD p1.f_Key.f_Src.f_B 15 0), .bool p1.f_Key.f_Dst.f_Six, .int .u8 (List.getD p1.f_Key.f_Dst.f_B 0 0), .int .u8 (List.getD p1.f_Key.f_Dst.f_B 1 0), .int .u8 (List.getD p1.f_Key.f_Dst.f_B 2 0), .int .u8 (List.getD p1.f_Key.f_Dst.f_B 3 0), .int .u8 (List.getD p1.f_Key.f_Dst.f_B 4 0), .int .u8 (List.getD p1.f_Key.f_Dst.f_B 5 0), .int .u8 (List.getD p1.f_Key.f_Dst.f_B 6 0), .int .u8 (List.getD p1.f_Key.f_Dst.f_B 7 0), .int .u8 (List.getD p1.f_Key.f_Dst.f_B 8 0), .int .u8 (List.getD p1.f_Key.f_Dst.f_B 9 0), .int .u8 (List.getD p1.f_Key.f_Dst.f_B 10 0), .int .u8 (List.getD p1.f_Key.f_Dst.f_B 11 0), .int .u8 (List.getD p1.f_Key.f_Dst.f_B 12 0), .int .u8 (List.getD p1.f_Key.f_Dst.f_B 13 0), .int .u8 (List.getD p1.f_Key.f_Dst.f_B 14 0), .int .u8 (List.getD p1.f_Key.f_Dst.f_B 15 0), .int .u8 p1.f_Key.f_Proto, .int .u16 p1.f_Key.f_SrcPort, .int .u16 p1.f_Key.f_DstPort, .int .i64 p1.f_Length, .int .u8 p1.f_Flags, .bool p1.f_Fragment]] w (fun v w' => v = .agg #[.bool r.f_Key.f_Src.f_Six, .int .u8 (List.getD r.f_Key.f_Src.f_B 0 0), .int .u8 (List.getD r.f_Key.f_Src.f_B 1 0), .int .u8 (List.getD r.f_Key.f_Src.f_B 2 0), .int .u8 (List.getD r.f_Key.f_Src.f_B 3 0), .int .u8 (List.getD r.f_Key.f_Src.f_B 4 0), .int .u8 (List.getD r.f_Key.f_Src.f_B 5 0), .int .u8 (List.getD r.f_Key.f_Src.f_B 6 0), .int .u8 (List.getD r.f_Key.f_Src.f_B 7 0), .int .u8 (List.getD r.f_Key.f_Src.f_B 8 0), .int .u8 (List.getD r.f_Key.f_Src.f_B 9 0), .int .u8 (List.getD r.f_Key.f_Src.f_B 10 0), .int .u8 (List.getD r.f_Key.f_Src.f_B 11 0), .int .u8 (List.getD r.f_Key.f_Src.f_B 12 0), .int .u8 (List.getD r.f_Key.f_Src.f_B 13 0), .int .u8 (List.getD r.f_Key.f_Src.f_B 14 0), .int .u8 (List.getD r.f_Key.f_Src.f_B 15 0), .bool r.f_Key.f_Dst.f_Six, .int .u8 (List.getD r.f_Key.f_Dst.f_B 0 0), .int .u8 (List.getD r.f_Key.f_Dst.f_B 1 0), .int .u8 (List.getD r.f_Key.f_Dst.f_B 2 0), .int .u8 (List.getD r.f_Key.f_Dst.f_B 3 0), .int .u8 (List.getD r.f_Key.f_Dst.f_B 4 0), .int .u8 (List.getD r.f_Key.f_Dst.f_B 5 0), .int .u8 (List.getD r.f_Key.f_Dst.f_B 6 0), .int .u8 (List.getD r.f_Key.f_Dst.f_B 7 0), .int .u8 (List.getD r.f_Key.f_Dst.f_B 8 0), .int .u8 (List.getD r.f_Key.f_Dst.f_B 9 0), .int .u8 (List.getD r.f_Key.f_Dst.f_B 10 0), .int .u8 (List.getD r.f_Key.f_Dst.f_B 11 0), .int .u8 (List.getD r.f_Key.f_Dst.f_B 12 0), .int .u8 (List.getD r.f_Key.f_Dst.f_B 13 0), .int .u8 (List.getD r.f_Key.f_Dst.f_B 14 0), .int .u8 (List.getD r.f_Key.f_Dst.f_B 15 0), .int .u8 r.f_Key.f_Proto, .int .u16 r.f_Key.f_SrcPort, .int .u16 r.f_Key.f_DstPort, .int .i64 r.f_Length, .int .u8 r.f_Flags, .bool r.f_Fragment] ∧ Mem w [] w' []) := by
  refine calls_KC Try.func17 rfl Try.ntmps17 rfl ?_
  have hM := Mem.init w
  unfold F_docs_Packet at hF
  refine KC.seq ?_
  refine KC.region ?_
  refine RL.eff (E.box (vs := [.bool p1.f_Key.f_Src.f_Six, .int .u8 (List.getD p1.f_Key.f_Src.f_B 0 0), .int .u8 (List.getD p1.f_Key.f_Src.f_B 1 0), .int .u8 (List.getD p1.f_Key.f_Src.f_B 2 0), .int .u8 (List.getD p1.f_Key.f_Src.f_B 3 0), .int .u8 (List.getD p1.f_Key.f_Src.f_B 4 0), .int .u8 (List.getD p1.f_Key.f_Src.f_B 5 0), .int .u8 (List.getD p1.f_Key.f_Src.f_B 6 0), .int .u8 (List.getD p1.f_Key.f_Src.f_B 7 0), .int .u8 (List.getD p1.f_Key.f_Src.f_B 8 0), .int .u8 (List.getD p1.f_Key.f_Src.f_B 9 0), .int .u8 (List.getD p1.f_Key.f_Src.f_B 10 0), .int .u8 (List.getD p1.f_Key.f_Src.f_B 11 0), .int .u8 (List.getD p1.f_Key.f_Src.f_B 12 0), .int .u8 (List.getD p1.f_Key.f_Src.f_B 13 0), .int .u8 (List.getD p1.f_Key.f_Src.f_B 14 0), .int .u8 (List.getD p1.f_Key.f_Src.f_B 15 0), .bool p1.f_Key.f_Dst.f_Six, .int .u8 (List.getD p1.f_Key.f_Dst.f_B 0 0), .int .u8 (List.getD p1.f_Key.f_Dst.f_B 1 0), .int .u8 (List.getD p1.f_Key.f_Dst.f_B 2 0), .int .u8 (List.getD p1.f_Key.f_Dst.f_B 3 0), .int .u8 (List.getD p1.f_Key.f_Dst.f_B 4 0), .int .u8 (List.getD p1.f_Key.f_Dst.f_B 5 0), .int .u8 (List.getD p1.f_Key.f_Dst.f_B 6 0), .int .u8 (List.getD p1.f_Key.f_Dst.f_B 7 0), .int .u8 (List.getD p1.f_Key.f_Dst.f_B 8 0), .int .u8 (List.getD p1.f_Key.f_Dst.f_B 9 0), .int .u8 (List.getD p1.f_Key.f_Dst.f_B 10 0), .int .u8 (List.getD p1.f_Key.f_Dst.f_B 11 0), .int .u8 (List.getD p1.f_Key.f_Dst.f_B 12 0), .int .u8 (List.getD p1.f_Key.f_Dst.f_B 13 0), .int .u8 (List.getD p1.f_Key.f_Dst.f_B 14 0), .int .u8 (List.getD p1.f_Key.f_Dst.f_B 15 0), .int .u8 p1.f_Key.f_Proto, .int .u16 p1.f_Key.f_SrcPort, .int .u16 p1.f_Key.f_DstPort, .int .i64 p1.f_Length, .int .u8 p1.f_Flags, .bool p1.f_Fragment]) hM rfl rfl) rfl fun v w3 hv => ?_
  clear hM
  obtain ⟨g2, rfl, hM, hf⟩ := hv
  refine RL.eff (E.alloc hM ze54) rfl fun v w6 hv => ?_
  clear hM
  obtain ⟨g5, rfl, hM, hf⟩ := hv
  refine RL.nil ?_
  refine KQ.then_n ?_
  refine KC.seq ?_
  replace hM := hM.drewN 1
  refine KC.draw [] [10] [2, 10] [0, 3, 5, 7] (.ofList [0, 1, 3, 4, 5, 6, 7, 8, 2, 9, 10]) moP (by kernel_rfl) ?_
  refine RD.p rfl rfl rfl rfl (fun w' => O.fldA fl39_0 (by decide) rfl) ?_
  refine RD.q rfl rfl rfl rfl (fun w' hf => O.loadN (cs := [.bool p1.f_Key.f_Src.f_Six, .int .u8 (List.getD p1.f_Key.f_Src.f_B 0 0), .int .u8 (List.getD p1.f_Key.f_Src.f_B 1 0), .int .u8 (List.getD p1.f_Key.f_Src.f_B 2 0), .int .u8 (List.getD p1.f_Key.f_Src.f_B 3 0), .int .u8 (List.getD p1.f_Key.f_Src.f_B 4 0), .int .u8 (List.getD p1.f_Key.f_Src.f_B 5 0), .int .u8 (List.getD p1.f_Key.f_Src.f_B 6 0), .int .u8 (List.getD p1.f_Key.f_Src.f_B 7 0), .int .u8 (List.getD p1.f_Key.f_Src.f_B 8 0), .int .u8 (List.getD p1.f_Key.f_Src.f_B 9 0), .int .u8 (List.getD p1.f_Key.f_Src.f_B 10 0), .int .u8 (List.getD p1.f_Key.f_Src.f_B 11 0), .int .u8 (List.getD p1.f_Key.f_Src.f_B 12 0), .int .u8 (List.getD p1.f_Key.f_Src.f_B 13 0), .int .u8 (List.getD p1.f_Key.f_Src.f_B 14 0), .int .u8 (List.getD p1.f_Key.f_Src.f_B 15 0), .bool p1.f_Key.f_Dst.f_Six, .int .u8 (List.getD p1.f_Key.f_Dst.f_B 0 0), .int .u8 (List.getD p1.f_Key.f_Dst.f_B 1 0), .int .u8 (List.getD p1.f_Key.f_Dst.f_B 2 0), .int .u8 (List.getD p1.f_Key.f_Dst.f_B 3 0), .int .u8 (List.getD p1.f_Key.f_Dst.f_B 4 0), .int .u8 (List.getD p1.f_Key.f_Dst.f_B 5 0), .int .u8 (List.getD p1.f_Key.f_Dst.f_B 6 0), .int .u8 (List.getD p1.f_Key.f_Dst.f_B 7 0), .int .u8 (List.getD p1.f_Key.f_Dst.f_B 8 0), .int .u8 (List.getD p1.f_Key.f_Dst.f_B 9 0), .int .u8 (List.getD p1.f_Key.f_Dst.f_B 10 0), .int .u8 (List.getD p1.f_Key.f_Dst.f_B 11 0), .int .u8 (List.getD p1.f_Key.f_Dst.f_B 12 0), .int .u8 (List.getD p1.f_Key.f_Dst.f_B 13 0), .int .u8 (List.getD p1.f_Key.f_Dst.f_B 14 0), .int .u8 (List.getD p1.f_Key.f_Dst.f_B 15 0), .int .u8 p1.f_Key.f_Proto, .int .u16 p1.f_Key.f_SrcPort, .int .u16 p1.f_Key.f_DstPort]) ag27 rfl (Cs.addsN [0] ((hM.bx (i := 0) rfl).fut hf) rfl)) ?_
  refine RD.p rfl rfl rfl rfl (fun w' => O.fldA fl39_1 (by decide) rfl) ?_
  refine RD.q rfl rfl rfl rfl (fun w' hf => O.load sc3 rfl (Cs.adds [37] ((hM.bx (i := 0) rfl).fut hf) rfl)) ?_
  refine RD.p rfl rfl rfl rfl (fun w' => O.fldA fl39_2 (by decide) rfl) ?_
  refine RD.q rfl rfl rfl rfl (fun w' hf => O.load sc5 rfl (Cs.adds [38] ((hM.bx (i := 0) rfl).fut hf) rfl)) ?_
  refine RD.p rfl rfl rfl rfl (fun w' => O.fldA fl39_3 (by decide) rfl) ?_
  refine RD.q rfl rfl rfl rfl (fun w' hf => O.load sc4 rfl (Cs.adds [39] ((hM.bx (i := 0) rfl).fut hf) rfl)) ?_
  refine obindE hF fun y8 hx9 hF => ?_
  refine RD.mcall rfl rfl trivial Try.func15 bd15 rfl rfl (c_docs_Key _ p1.f_Key _ hx9) fun v w10 hv => ?_
  obtain ⟨rfl, hN11⟩ := hv
  refine ⟨fun _ => hN11.fut, ?_⟩
  replace hM := hM.call0 hN11
  refine RD.q rfl rfl rfl rfl (fun w' hf => O.bld (cs := [.bool y8.f_Src.f_Six, .int .u8 (List.getD y8.f_Src.f_B 0 0), .int .u8 (List.getD y8.f_Src.f_B 1 0), .int .u8 (List.getD y8.f_Src.f_B 2 0), .int .u8 (List.getD y8.f_Src.f_B 3 0), .int .u8 (List.getD y8.f_Src.f_B 4 0), .int .u8 (List.getD y8.f_Src.f_B 5 0), .int .u8 (List.getD y8.f_Src.f_B 6 0), .int .u8 (List.getD y8.f_Src.f_B 7 0), .int .u8 (List.getD y8.f_Src.f_B 8 0), .int .u8 (List.getD y8.f_Src.f_B 9 0), .int .u8 (List.getD y8.f_Src.f_B 10 0), .int .u8 (List.getD y8.f_Src.f_B 11 0), .int .u8 (List.getD y8.f_Src.f_B 12 0), .int .u8 (List.getD y8.f_Src.f_B 13 0), .int .u8 (List.getD y8.f_Src.f_B 14 0), .int .u8 (List.getD y8.f_Src.f_B 15 0), .bool y8.f_Dst.f_Six, .int .u8 (List.getD y8.f_Dst.f_B 0 0), .int .u8 (List.getD y8.f_Dst.f_B 1 0), .int .u8 (List.getD y8.f_Dst.f_B 2 0), .int .u8 (List.getD y8.f_Dst.f_B 3 0), .int .u8 (List.getD y8.f_Dst.f_B 4 0), .int .u8 (List.getD y8.f_Dst.f_B 5 0), .int .u8 (List.getD y8.f_Dst.f_B 6 0), .int .u8 (List.getD y8.f_Dst.f_B 7 0), .int .u8 (List.getD y8.f_Dst.f_B 8 0), .int .u8 (List.getD y8.f_Dst.f_B 9 0), .int .u8 (List.getD y8.f_Dst.f_B 10 0), .int .u8 (List.getD y8.f_Dst.f_B 11 0), .int .u8 (List.getD y8.f_Dst.f_B 12 0), .int .u8 (List.getD y8.f_Dst.f_B 13 0), .int .u8 (List.getD y8.f_Dst.f_B 14 0), .int .u8 (List.getD y8.f_Dst.f_B 15 0), .int .u8 y8.f_Proto, .int .u16 y8.f_SrcPort, .int .u16 y8.f_DstPort, .int .i64 p1.f_Length, .int .u8 p1.f_Flags, .bool p1.f_Fragment]) bt54 rfl (by kernel_rfl)) ?_
  refine RD.meffs rfl rfl rfl (E.stB (j := 1) (off := 0) (vs := [.bool y8.f_Src.f_Six, .int .u8 (List.getD y8.f_Src.f_B 0 0), .int .u8 (List.getD y8.f_Src.f_B 1 0), .int .u8 (List.getD y8.f_Src.f_B 2 0), .int .u8 (List.getD y8.f_Src.f_B 3 0), .int .u8 (List.getD y8.f_Src.f_B 4 0), .int .u8 (List.getD y8.f_Src.f_B 5 0), .int .u8 (List.getD y8.f_Src.f_B 6 0), .int .u8 (List.getD y8.f_Src.f_B 7 0), .int .u8 (List.getD y8.f_Src.f_B 8 0), .int .u8 (List.getD y8.f_Src.f_B 9 0), .int .u8 (List.getD y8.f_Src.f_B 10 0), .int .u8 (List.getD y8.f_Src.f_B 11 0), .int .u8 (List.getD y8.f_Src.f_B 12 0), .int .u8 (List.getD y8.f_Src.f_B 13 0), .int .u8 (List.getD y8.f_Src.f_B 14 0), .int .u8 (List.getD y8.f_Src.f_B 15 0), .bool y8.f_Dst.f_Six, .int .u8 (List.getD y8.f_Dst.f_B 0 0), .int .u8 (List.getD y8.f_Dst.f_B 1 0), .int .u8 (List.getD y8.f_Dst.f_B 2 0), .int .u8 (List.getD y8.f_Dst.f_B 3 0), .int .u8 (List.getD y8.f_Dst.f_B 4 0), .int .u8 (List.getD y8.f_Dst.f_B 5 0), .int .u8 (List.getD y8.f_Dst.f_B 6 0), .int .u8 (List.getD y8.f_Dst.f_B 7 0), .int .u8 (List.getD y8.f_Dst.f_B 8 0), .int .u8 (List.getD y8.f_Dst.f_B 9 0), .int .u8 (List.getD y8.f_Dst.f_B 10 0), .int .u8 (List.getD y8.f_Dst.f_B 11 0), .int .u8 (List.getD y8.f_Dst.f_B 12 0), .int .u8 (List.getD y8.f_Dst.f_B 13 0), .int .u8 (List.getD y8.f_Dst.f_B 14 0), .int .u8 (List.getD y8.f_Dst.f_B 15 0), .int .u8 y8.f_Proto, .int .u16 y8.f_SrcPort, .int .u16 y8.f_DstPort, .int .i64 p1.f_Length, .int .u8 p1.f_Flags, .bool p1.f_Fragment]) (cs' := [.bool y8.f_Src.f_Six, .int .u8 (List.getD y8.f_Src.f_B 0 0), .int .u8 (List.getD y8.f_Src.f_B 1 0), .int .u8 (List.getD y8.f_Src.f_B 2 0), .int .u8 (List.getD y8.f_Src.f_B 3 0), .int .u8 (List.getD y8.f_Src.f_B 4 0), .int .u8 (List.getD y8.f_Src.f_B 5 0), .int .u8 (List.getD y8.f_Src.f_B 6 0), .int .u8 (List.getD y8.f_Src.f_B 7 0), .int .u8 (List.getD y8.f_Src.f_B 8 0), .int .u8 (List.getD y8.f_Src.f_B 9 0), .int .u8 (List.getD y8.f_Src.f_B 10 0), .int .u8 (List.getD y8.f_Src.f_B 11 0), .int .u8 (List.getD y8.f_Src.f_B 12 0), .int .u8 (List.getD y8.f_Src.f_B 13 0), .int .u8 (List.getD y8.f_Src.f_B 14 0), .int .u8 (List.getD y8.f_Src.f_B 15 0), .bool y8.f_Dst.f_Six, .int .u8 (List.getD y8.f_Dst.f_B 0 0), .int .u8 (List.getD y8.f_Dst.f_B 1 0), .int .u8 (List.getD y8.f_Dst.f_B 2 0), .int .u8 (List.getD y8.f_Dst.f_B 3 0), .int .u8 (List.getD y8.f_Dst.f_B 4 0), .int .u8 (List.getD y8.f_Dst.f_B 5 0), .int .u8 (List.getD y8.f_Dst.f_B 6 0), .int .u8 (List.getD y8.f_Dst.f_B 7 0), .int .u8 (List.getD y8.f_Dst.f_B 8 0), .int .u8 (List.getD y8.f_Dst.f_B 9 0), .int .u8 (List.getD y8.f_Dst.f_B 10 0), .int .u8 (List.getD y8.f_Dst.f_B 11 0), .int .u8 (List.getD y8.f_Dst.f_B 12 0), .int .u8 (List.getD y8.f_Dst.f_B 13 0), .int .u8 (List.getD y8.f_Dst.f_B 14 0), .int .u8 (List.getD y8.f_Dst.f_B 15 0), .int .u8 y8.f_Proto, .int .u16 y8.f_SrcPort, .int .u16 y8.f_DstPort, .int .i64 p1.f_Length, .int .u8 p1.f_Flags, .bool p1.f_Fragment]) hM rfl sz54 rfl (adds_eq [] rfl) rfl rfl (One.all rfl) rfl rfl) fun w12 hM1 => ?_
  clear hM
  have hM := hM1
  clear hM1
  refine RD.nil ?_
  refine KQ.then_n ?_
  refine KC.ret ?_
  obtain rfl := Option.some.inj hF
  have hb13 := hM.bx (i := 1) rfl
  replace hM := hM.pick [] rfl (by decide)
  refine KQ.rets Try.results17 (RVs.cons (RV.cN (cs := [.bool y8.f_Src.f_Six, .int .u8 (List.getD y8.f_Src.f_B 0 0), .int .u8 (List.getD y8.f_Src.f_B 1 0), .int .u8 (List.getD y8.f_Src.f_B 2 0), .int .u8 (List.getD y8.f_Src.f_B 3 0), .int .u8 (List.getD y8.f_Src.f_B 4 0), .int .u8 (List.getD y8.f_Src.f_B 5 0), .int .u8 (List.getD y8.f_Src.f_B 6 0), .int .u8 (List.getD y8.f_Src.f_B 7 0), .int .u8 (List.getD y8.f_Src.f_B 8 0), .int .u8 (List.getD y8.f_Src.f_B 9 0), .int .u8 (List.getD y8.f_Src.f_B 10 0), .int .u8 (List.getD y8.f_Src.f_B 11 0), .int .u8 (List.getD y8.f_Src.f_B 12 0), .int .u8 (List.getD y8.f_Src.f_B 13 0), .int .u8 (List.getD y8.f_Src.f_B 14 0), .int .u8 (List.getD y8.f_Src.f_B 15 0), .bool y8.f_Dst.f_Six, .int .u8 (List.getD y8.f_Dst.f_B 0 0), .int .u8 (List.getD y8.f_Dst.f_B 1 0), .int .u8 (List.getD y8.f_Dst.f_B 2 0), .int .u8 (List.getD y8.f_Dst.f_B 3 0), .int .u8 (List.getD y8.f_Dst.f_B 4 0), .int .u8 (List.getD y8.f_Dst.f_B 5 0), .int .u8 (List.getD y8.f_Dst.f_B 6 0), .int .u8 (List.getD y8.f_Dst.f_B 7 0), .int .u8 (List.getD y8.f_Dst.f_B 8 0), .int .u8 (List.getD y8.f_Dst.f_B 9 0), .int .u8 (List.getD y8.f_Dst.f_B 10 0), .int .u8 (List.getD y8.f_Dst.f_B 11 0), .int .u8 (List.getD y8.f_Dst.f_B 12 0), .int .u8 (List.getD y8.f_Dst.f_B 13 0), .int .u8 (List.getD y8.f_Dst.f_B 14 0), .int .u8 (List.getD y8.f_Dst.f_B 15 0), .int .u8 y8.f_Proto, .int .u16 y8.f_SrcPort, .int .u16 y8.f_DstPort, .int .i64 p1.f_Length, .int .u8 p1.f_Flags, .bool p1.f_Fragment]) rfl ag54 hb13) RVs.nil) ?_
  exact ⟨_, rfl, rfl, hM⟩
set_option maxRecDepth 100000 in
set_option maxHeartbeats 40000000 in
theorem c_ref10_most (w : World) (r : Int) (hF : F_ref10_most = some r) :
    CallsR Try.prog 45 [] w (fun v w' => v = .int .u64 r ∧ Mem w [] w' []) := by
  refine calls_KC Try.func45 rfl Try.ntmps45 rfl ?_
  have hM := Mem.init w
  unfold F_ref10_most at hF
  refine KC.seq ?_
  refine KC.region ?_
  refine RL.val (O.assign rfl) rfl ?_
  refine RL.nil ?_
  refine KQ.then_n ?_
  refine KC.seq ?_
  refine KC.region ?_
  refine RL.val (O.assign rfl) rfl ?_
  refine RL.nil ?_
  refine KQ.then_n ?_
  refine KC.ret ?_
  obtain rfl := Option.some.inj hF
  refine KQ.rets Try.results45 (RVs.cons (RV.tm rfl) RVs.nil) ?_
  exact ⟨_, rfl, rfl, hM⟩
set_option maxRecDepth 100000 in
set_option maxHeartbeats 40000000 in
theorem c_ref10_Plus (w : World) (av1 : Int) (b2 : Int) (r : Int) (hF : F_ref10_Plus av1 b2 = some r) :
    CallsR Try.prog 33 [.int .u64 av1, .int .u64 b2] w (fun v w' => v = .int .u64 r ∧ Mem w [] w' []) := by
  refine calls_KC Try.func33 rfl Try.ntmps33 rfl ?_
  have hM := Mem.init w
  unfold F_ref10_Plus at hF
  refine KC.seq ?_
  refine KC.region ?_
  refine RL.val (O.assign rfl) rfl ?_
  refine RL.nil ?_
  refine KQ.then_n ?_
  refine KC.seq ?_
  refine KC.seq ?_
  refine KC.region ?_
  refine RL.val (O.move rfl) rfl ?_
  refine obindE hF fun y3 hx4 hF => ?_
  refine RL.call Try.func45 bd45 rfl rfl (c_ref10_most _ _ hx4) fun v w5 hv => ?_
  obtain ⟨rfl, hN6⟩ := hv
  replace hM := hM.call0 hN6
  refine RL.val (O.move rfl) rfl ?_
  refine RL.val (O.sub rfl rfl) rfl ?_
  refine RL.val (O.gtr rfl rfl) rfl ?_
  refine RL.nil ?_
  refine KQ.then_n ?_
  refine KC.cond rfl (fun hc => ?_) (fun hc => ?_)
  · rw [if_pos hc] at hF
    refine KC.seq ?_
    refine KC.region ?_
    refine obindE hF fun y7 hx8 hF => ?_
    refine RL.call Try.func45 bd45 rfl rfl (c_ref10_most _ _ hx8) fun v w9 hv => ?_
    obtain ⟨rfl, hN10⟩ := hv
    replace hM := hM.call0 hN10
    refine RL.val (O.assign rfl) rfl ?_
    refine RL.nil ?_
    refine KQ.then_n ?_
    refine KC.ret ?_
    refine KQ.then_r ?_
    obtain rfl := Option.some.inj hF
    refine KQ.rets Try.results33 (RVs.cons (RV.tm rfl) RVs.nil) ?_
    exact ⟨_, rfl, rfl, hM⟩
  · rw [if_neg (ne_true hc)] at hF
    refine KC.skip ?_
    refine KQ.then_n ?_
    refine KC.seq ?_
    refine KC.region ?_
    refine RL.val (O.move rfl) rfl ?_
    refine RL.val (O.move rfl) rfl ?_
    refine RL.val (O.add rfl rfl) rfl ?_
    refine RL.val (O.assign rfl) rfl ?_
    refine RL.nil ?_
    refine KQ.then_n ?_
    refine KC.ret ?_
    obtain rfl := Option.some.inj hF
    refine KQ.rets Try.results33 (RVs.cons (RV.tm rfl) RVs.nil) ?_
    exact ⟨_, rfl, rfl, hM⟩
end Go.Proofs.Yteafnfoponjoeaa
