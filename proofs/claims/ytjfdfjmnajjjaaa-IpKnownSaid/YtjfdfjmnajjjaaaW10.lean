/- Printed by a program of this claim: each call returns what the plain function of its name gives. -/
import Derived.Test.YtjfdfjmnajjjaaaW1
import Derived.Test.YtjfdfjmnajjjaaaW9
set_option linter.unusedVariables false
namespace Go.Proofs.Ytjfdfjmnajjjaaa
open Go Go.Ox Go.RowKit
set_option maxRecDepth 100000 in
set_option maxHeartbeats 40000000 in
theorem c_ip_Same (w : World) (av1 : T_ip_Header) (A2 : Option Addr) (c3 : Nat) (hr4 : Rd w A2 c3 1 av1.f_Options.length (av1.f_Options.flatMap (eI .u8))) (b5 : T_ip_Header) (A6 : Option Addr) (c7 : Nat) (hr8 : Rd w A6 c7 1 b5.f_Options.length (b5.f_Options.flatMap (eI .u8))) (r : Bool) (hF : F_ip_Same av1 b5 = some r) :
    CallsR Try.prog 17 [.agg #[.int .u8 av1.f_TOS, .int .u16 av1.f_Total, .int .u16 av1.f_ID, .bool av1.f_DF, .bool av1.f_MF, .int .u16 av1.f_Frag, .int .u8 av1.f_TTL, .int .u8 av1.f_Proto, .int .u8 (List.getD av1.f_Src 0 0), .int .u8 (List.getD av1.f_Src 1 0), .int .u8 (List.getD av1.f_Src 2 0), .int .u8 (List.getD av1.f_Src 3 0), .int .u8 (List.getD av1.f_Dst 0 0), .int .u8 (List.getD av1.f_Dst 1 0), .int .u8 (List.getD av1.f_Dst 2 0), .int .u8 (List.getD av1.f_Dst 3 0), .slice A2 (av1.f_Options).length c3], .agg #[.int .u8 b5.f_TOS, .int .u16 b5.f_Total, .int .u16 b5.f_ID, .bool b5.f_DF, .bool b5.f_MF, .int .u16 b5.f_Frag, .int .u8 b5.f_TTL, .int .u8 b5.f_Proto, .int .u8 (List.getD b5.f_Src 0 0), .int .u8 (List.getD b5.f_Src 1 0), .int .u8 (List.getD b5.f_Src 2 0), .int .u8 (List.getD b5.f_Src 3 0), .int .u8 (List.getD b5.f_Dst 0 0), .int .u8 (List.getD b5.f_Dst 1 0), .int .u8 (List.getD b5.f_Dst 2 0), .int .u8 (List.getD b5.f_Dst 3 0), .slice A6 (b5.f_Options).length c7]] w (fun v w' => v = .bool r ∧ Mem w [] w' []) := by
  refine calls_KC Try.func17 rfl Try.ntmps17 rfl ?_
  have hM := Mem.init w
  unfold F_ip_Same at hF
  refine KC.seqH fun Q9 hQ9 => ?_
  refine KC.region ?_
  refine RL.eff (E.box (vs := [.int .u8 av1.f_TOS, .int .u16 av1.f_Total, .int .u16 av1.f_ID, .bool av1.f_DF, .bool av1.f_MF, .int .u16 av1.f_Frag, .int .u8 av1.f_TTL, .int .u8 av1.f_Proto, .int .u8 (List.getD av1.f_Src 0 0), .int .u8 (List.getD av1.f_Src 1 0), .int .u8 (List.getD av1.f_Src 2 0), .int .u8 (List.getD av1.f_Src 3 0), .int .u8 (List.getD av1.f_Dst 0 0), .int .u8 (List.getD av1.f_Dst 1 0), .int .u8 (List.getD av1.f_Dst 2 0), .int .u8 (List.getD av1.f_Dst 3 0), .slice A2 (av1.f_Options).length c3]) hM rfl rfl) rfl fun v w11 hv => ?_
  clear hM
  obtain ⟨g10, rfl, hM, hf⟩ := hv
  refine RL.eff (E.box (vs := [.int .u8 b5.f_TOS, .int .u16 b5.f_Total, .int .u16 b5.f_ID, .bool b5.f_DF, .bool b5.f_MF, .int .u16 b5.f_Frag, .int .u8 b5.f_TTL, .int .u8 b5.f_Proto, .int .u8 (List.getD b5.f_Src 0 0), .int .u8 (List.getD b5.f_Src 1 0), .int .u8 (List.getD b5.f_Src 2 0), .int .u8 (List.getD b5.f_Src 3 0), .int .u8 (List.getD b5.f_Dst 0 0), .int .u8 (List.getD b5.f_Dst 1 0), .int .u8 (List.getD b5.f_Dst 2 0), .int .u8 (List.getD b5.f_Dst 3 0), .slice A6 (b5.f_Options).length c7]) hM rfl rfl) rfl fun v w14 hv => ?_
  clear hM
  obtain ⟨g13, rfl, hM, hf⟩ := hv
  refine RL.val (O.assign rfl) rfl ?_
  refine RL.nil ?_
  refine KQ.thn hQ9 ?_
  clear hQ9 Q9
  refine KC.cut (fun a w19 => ∃ (plain18 : Bool), Kn 82 [(2, .pointer (some ⟨g10, 0, none⟩)), (3, .pointer (some ⟨g13, 0, none⟩)), (5, .bool plain18)] a ∧ Mem w [] w19 [.box g10 39 [.int .u8 av1.f_TOS, .int .u16 av1.f_Total, .int .u16 av1.f_ID, .bool av1.f_DF, .bool av1.f_MF, .int .u16 av1.f_Frag, .int .u8 av1.f_TTL, .int .u8 av1.f_Proto, .int .u8 (List.getD av1.f_Src 0 0), .int .u8 (List.getD av1.f_Src 1 0), .int .u8 (List.getD av1.f_Src 2 0), .int .u8 (List.getD av1.f_Src 3 0), .int .u8 (List.getD av1.f_Dst 0 0), .int .u8 (List.getD av1.f_Dst 1 0), .int .u8 (List.getD av1.f_Dst 2 0), .int .u8 (List.getD av1.f_Dst 3 0), .slice A2 (av1.f_Options).length c3], .box g13 39 [.int .u8 b5.f_TOS, .int .u16 b5.f_Total, .int .u16 b5.f_ID, .bool b5.f_DF, .bool b5.f_MF, .int .u16 b5.f_Frag, .int .u8 b5.f_TTL, .int .u8 b5.f_Proto, .int .u8 (List.getD b5.f_Src 0 0), .int .u8 (List.getD b5.f_Src 1 0), .int .u8 (List.getD b5.f_Src 2 0), .int .u8 (List.getD b5.f_Src 3 0), .int .u8 (List.getD b5.f_Dst 0 0), .int .u8 (List.getD b5.f_Dst 1 0), .int .u8 (List.getD b5.f_Dst 2 0), .int .u8 (List.getD b5.f_Dst 3 0), .slice A6 (b5.f_Options).length c7]] ∧ F_ip_Same_j1 av1 b5 plain18 = some r) ?_ ?_
  · refine KC.region ?_
    refine RL.val (O.fldA fl39_0 (by decide) rfl) rfl ?_
    refine RL.val (O.load sc5 rfl (Cs.adds [0] ((hM.bx (i := 0) rfl)) rfl)) rfl ?_
    refine RL.val (O.fldA fl39_0 (by decide) rfl) rfl ?_
    refine RL.val (O.load sc5 rfl (Cs.adds [0] ((hM.bx (i := 1) rfl)) rfl)) rfl ?_
    refine RL.val (O.eql rfl rfl) rfl ?_
    refine RL.val (O.move rfl) rfl ?_
    refine RL.bcase (t := 11) rfl (fun hc => ?_) (fun hc => ?_)
    · rw [if_pos hc] at hF
      refine RL.gval rfl rfl (O.fldA fl39_1 (by decide) rfl) rfl ?_
      refine RL.gval rfl rfl (O.load sc36 rfl (Cs.adds [1] ((hM.bx (i := 0) rfl)) rfl)) rfl ?_
      refine RL.gval rfl rfl (O.fldA fl39_1 (by decide) rfl) rfl ?_
      refine RL.gval rfl rfl (O.load sc36 rfl (Cs.adds [1] ((hM.bx (i := 1) rfl)) rfl)) rfl ?_
      refine RL.gval rfl rfl (O.eql rfl rfl) rfl ?_
      refine RL.val (O.pickt rfl rfl) rfl ?_
      refine RL.val (O.move rfl) rfl ?_
      refine RL.bcase (t := 18) rfl (fun hc => ?_) (fun hc => ?_)
      · rw [if_pos hc] at hF
        refine RL.gval rfl rfl (O.fldA fl39_2 (by decide) rfl) rfl ?_
        refine RL.gval rfl rfl (O.load sc36 rfl (Cs.adds [2] ((hM.bx (i := 0) rfl)) rfl)) rfl ?_
        refine RL.gval rfl rfl (O.fldA fl39_2 (by decide) rfl) rfl ?_
        refine RL.gval rfl rfl (O.load sc36 rfl (Cs.adds [2] ((hM.bx (i := 1) rfl)) rfl)) rfl ?_
        refine RL.gval rfl rfl (O.eql rfl rfl) rfl ?_
        refine RL.val (O.pickt rfl rfl) rfl ?_
        refine RL.val (O.move rfl) rfl ?_
        refine RL.bcase (t := 25) rfl (fun hc => ?_) (fun hc => ?_)
        · rw [if_pos hc] at hF
          refine RL.gval rfl rfl (O.fldA fl39_3 (by decide) rfl) rfl ?_
          refine RL.gval rfl rfl (O.load sc4 rfl (Cs.adds [3] ((hM.bx (i := 0) rfl)) rfl)) rfl ?_
          refine RL.gval rfl rfl (O.fldA fl39_3 (by decide) rfl) rfl ?_
          refine RL.gval rfl rfl (O.load sc4 rfl (Cs.adds [3] ((hM.bx (i := 1) rfl)) rfl)) rfl ?_
          refine RL.gval rfl rfl (O.eqlb Try.underlying4 rfl rfl) rfl ?_
          refine RL.val (O.pickt rfl rfl) rfl ?_
          refine RL.val (O.move rfl) rfl ?_
          refine RL.bcase (t := 32) rfl (fun hc => ?_) (fun hc => ?_)
          · rw [if_pos hc] at hF
            refine RL.gval rfl rfl (O.fldA fl39_4 (by decide) rfl) rfl ?_
            refine RL.gval rfl rfl (O.load sc4 rfl (Cs.adds [4] ((hM.bx (i := 0) rfl)) rfl)) rfl ?_
            refine RL.gval rfl rfl (O.fldA fl39_4 (by decide) rfl) rfl ?_
            refine RL.gval rfl rfl (O.load sc4 rfl (Cs.adds [4] ((hM.bx (i := 1) rfl)) rfl)) rfl ?_
            refine RL.gval rfl rfl (O.eqlb Try.underlying4 rfl rfl) rfl ?_
            refine RL.val (O.pickt rfl rfl) rfl ?_
            refine RL.val (O.move rfl) rfl ?_
            refine RL.bcase (t := 39) rfl (fun hc => ?_) (fun hc => ?_)
            · rw [if_pos hc] at hF
              refine RL.gval rfl rfl (O.fldA fl39_5 (by decide) rfl) rfl ?_
              refine RL.gval rfl rfl (O.load sc36 rfl (Cs.adds [5] ((hM.bx (i := 0) rfl)) rfl)) rfl ?_
              refine RL.gval rfl rfl (O.fldA fl39_5 (by decide) rfl) rfl ?_
              refine RL.gval rfl rfl (O.load sc36 rfl (Cs.adds [5] ((hM.bx (i := 1) rfl)) rfl)) rfl ?_
              refine RL.gval rfl rfl (O.eql rfl rfl) rfl ?_
              refine RL.val (O.pickt rfl rfl) rfl ?_
              refine RL.val (O.assign rfl) rfl ?_
              refine RL.nil ?_
              refine KQ.then_k ?_
              exact fun a ha => ⟨(av1.f_Frag == b5.f_Frag), ha.less (less_cons rfl (less_cons rfl (less_cons rfl less_nil))), hM, hF⟩
            · rw [if_neg (ne_true hc)] at hF
              refine RL.brun1 6 45 false (by kernel_rfl) ?_
              refine RL.val (O.assign rfl) rfl ?_
              refine RL.nil ?_
              refine KQ.then_k ?_
              exact fun a ha => ⟨false, ha.less (less_cons rfl (less_cons rfl (less_cons rfl less_nil))), hM, hF⟩
          · rw [if_neg (ne_true hc)] at hF
            refine RL.brun1 13 45 false (by kernel_rfl) ?_
            refine RL.val (O.assign rfl) rfl ?_
            refine RL.nil ?_
            refine KQ.then_k ?_
            exact fun a ha => ⟨false, ha.less (less_cons rfl (less_cons rfl (less_cons rfl less_nil))), hM, hF⟩
        · rw [if_neg (ne_true hc)] at hF
          refine RL.brun1 20 45 false (by kernel_rfl) ?_
          refine RL.val (O.assign rfl) rfl ?_
          refine RL.nil ?_
          refine KQ.then_k ?_
          exact fun a ha => ⟨false, ha.less (less_cons rfl (less_cons rfl (less_cons rfl less_nil))), hM, hF⟩
      · rw [if_neg (ne_true hc)] at hF
        refine RL.brun1 27 45 false (by kernel_rfl) ?_
        refine RL.val (O.assign rfl) rfl ?_
        refine RL.nil ?_
        refine KQ.then_k ?_
        exact fun a ha => ⟨false, ha.less (less_cons rfl (less_cons rfl (less_cons rfl less_nil))), hM, hF⟩
    · rw [if_neg (ne_true hc)] at hF
      refine RL.brun1 34 45 false (by kernel_rfl) ?_
      refine RL.val (O.assign rfl) rfl ?_
      refine RL.nil ?_
      refine KQ.then_k ?_
      exact fun a ha => ⟨false, ha.less (less_cons rfl (less_cons rfl (less_cons rfl less_nil))), hM, hF⟩
  · rintro a w19 ⟨plain18, ha, hM, hF⟩
    refine KC.app ha ?_
    clear ha
    unfold F_ip_Same_j1 at hF
    refine KC.cut (fun a w25 => ∃ (t24 : Bool), Kn 82 [(4, .bool t24)] a ∧ Mem w [] w25 [] ∧ F_ip_Same_j2 t24 = some r) ?_ ?_
    · refine KC.region ?_
      refine RL.val (O.move rfl) rfl ?_
      refine RL.val (O.move rfl) rfl ?_
      refine RL.bcase (t := 47) rfl (fun hc => ?_) (fun hc => ?_)
      · rw [if_pos hc] at hF
        refine RL.gval rfl rfl (O.fldA fl39_6 (by decide) rfl) rfl ?_
        refine RL.gval rfl rfl (O.load sc5 rfl (Cs.adds [6] ((hM.bx (i := 0) rfl)) rfl)) rfl ?_
        refine RL.gval rfl rfl (O.fldA fl39_6 (by decide) rfl) rfl ?_
        refine RL.gval rfl rfl (O.load sc5 rfl (Cs.adds [6] ((hM.bx (i := 1) rfl)) rfl)) rfl ?_
        refine RL.gval rfl rfl (O.eql rfl rfl) rfl ?_
        refine RL.val (O.pickt rfl rfl) rfl ?_
        refine RL.val (O.move rfl) rfl ?_
        refine RL.bcase (t := 54) rfl (fun hc => ?_) (fun hc => ?_)
        · rw [if_pos hc] at hF
          refine RL.gval rfl rfl (O.fldA fl39_7 (by decide) rfl) rfl ?_
          refine RL.gval rfl rfl (O.load sc5 rfl (Cs.adds [7] ((hM.bx (i := 0) rfl)) rfl)) rfl ?_
          refine RL.gval rfl rfl (O.fldA fl39_7 (by decide) rfl) rfl ?_
          refine RL.gval rfl rfl (O.load sc5 rfl (Cs.adds [7] ((hM.bx (i := 1) rfl)) rfl)) rfl ?_
          refine RL.gval rfl rfl (O.eql rfl rfl) rfl ?_
          refine RL.val (O.pickt rfl rfl) rfl ?_
          refine RL.val (O.move rfl) rfl ?_
          refine RL.bcase (t := 61) rfl (fun hc => ?_) (fun hc => ?_)
          · rw [if_pos hc] at hF
            refine RL.gval rfl rfl (O.fldA fl39_8 (by decide) rfl) rfl ?_
            refine RL.gval rfl rfl (O.loadN (cs := [.int .u8 (List.getD av1.f_Src 0 0), .int .u8 (List.getD av1.f_Src 1 0), .int .u8 (List.getD av1.f_Src 2 0), .int .u8 (List.getD av1.f_Src 3 0)]) ag37 rfl (Cs.addsN [8] ((hM.bx (i := 0) rfl)) rfl)) rfl ?_
            refine RL.gval rfl rfl (O.fldA fl39_8 (by decide) rfl) rfl ?_
            refine RL.gval rfl rfl (O.loadN (cs := [.int .u8 (List.getD b5.f_Src 0 0), .int .u8 (List.getD b5.f_Src 1 0), .int .u8 (List.getD b5.f_Src 2 0), .int .u8 (List.getD b5.f_Src 3 0)]) ag37 rfl (Cs.addsN [8] ((hM.bx (i := 1) rfl)) rfl)) rfl ?_
            refine RL.gval rfl rfl (O.steq (cs := [.int .u8 (List.getD av1.f_Src 0 0), .int .u8 (List.getD av1.f_Src 1 0), .int .u8 (List.getD av1.f_Src 2 0), .int .u8 (List.getD av1.f_Src 3 0)]) (cs' := [.int .u8 (List.getD b5.f_Src 0 0), .int .u8 (List.getD b5.f_Src 1 0), .int .u8 (List.getD b5.f_Src 2 0), .int .u8 (List.getD b5.f_Src 3 0)]) (by kernel_rfl) rfl rfl (eqArrT Try.underlying37 Try.underlying5 sz5 av1.f_Src b5.f_Src _ rfl rfl)) rfl ?_
            refine RL.val (O.pickt rfl rfl) rfl ?_
            refine RL.val (O.move rfl) rfl ?_
            refine RL.bcase (t := 68) rfl (fun hc => ?_) (fun hc => ?_)
            · rw [if_pos hc] at hF
              refine RL.gval rfl rfl (O.fldA fl39_9 (by decide) rfl) rfl ?_
              refine RL.gval rfl rfl (O.loadN (cs := [.int .u8 (List.getD av1.f_Dst 0 0), .int .u8 (List.getD av1.f_Dst 1 0), .int .u8 (List.getD av1.f_Dst 2 0), .int .u8 (List.getD av1.f_Dst 3 0)]) ag37 rfl (Cs.addsN [12] ((hM.bx (i := 0) rfl)) rfl)) rfl ?_
              refine RL.gval rfl rfl (O.fldA fl39_9 (by decide) rfl) rfl ?_
              refine RL.gval rfl rfl (O.loadN (cs := [.int .u8 (List.getD b5.f_Dst 0 0), .int .u8 (List.getD b5.f_Dst 1 0), .int .u8 (List.getD b5.f_Dst 2 0), .int .u8 (List.getD b5.f_Dst 3 0)]) ag37 rfl (Cs.addsN [12] ((hM.bx (i := 1) rfl)) rfl)) rfl ?_
              refine RL.gval rfl rfl (O.steq (cs := [.int .u8 (List.getD av1.f_Dst 0 0), .int .u8 (List.getD av1.f_Dst 1 0), .int .u8 (List.getD av1.f_Dst 2 0), .int .u8 (List.getD av1.f_Dst 3 0)]) (cs' := [.int .u8 (List.getD b5.f_Dst 0 0), .int .u8 (List.getD b5.f_Dst 1 0), .int .u8 (List.getD b5.f_Dst 2 0), .int .u8 (List.getD b5.f_Dst 3 0)]) (by kernel_rfl) rfl rfl (eqArrT Try.underlying37 Try.underlying5 sz5 av1.f_Dst b5.f_Dst _ rfl rfl)) rfl ?_
              refine RL.val (O.pickt rfl rfl) rfl ?_
              refine RL.val (O.move rfl) rfl ?_
              refine RL.bcase (t := 75) rfl (fun hc => ?_) (fun hc => ?_)
              · rw [if_pos hc] at hF
                refine RL.gval rfl rfl (O.fldA fl39_10 (by decide) rfl) rfl ?_
                refine RL.gval rfl rfl (O.load sc22 rfl (Cs.adds [16] ((hM.bx (i := 0) rfl)) rfl)) rfl ?_
                refine RL.gval rfl rfl (O.fldA fl39_10 (by decide) rfl) rfl ?_
                refine RL.gval rfl rfl (O.load sc22 rfl (Cs.adds [16] ((hM.bx (i := 1) rfl)) rfl)) rfl ?_
                refine obindE hF fun y20 hx21 hF => ?_
                refine RL.gcall rfl rfl Try.func38 bd38 rfl rfl (c_bytes_Equal _ _ _ av1.f_Options (hM.inp hr4 Off.nil) _ _ b5.f_Options (hM.inp hr8 Off.nil) _ hx21) fun v w22 hv => ?_
                obtain ⟨rfl, hN23⟩ := hv
                replace hM := hM.call0 hN23
                refine RL.val (O.pickt rfl rfl) rfl ?_
                refine RL.val (O.assign rfl) rfl ?_
                refine RL.nil ?_
                refine KQ.then_k ?_
                replace hM := hM.pick [] rfl (by decide)
                exact fun a ha => ⟨y20, ha.less (less_cons rfl less_nil), hM, hF⟩
              · rw [if_neg (ne_true hc)] at hF
                refine RL.brun1 6 81 false (by kernel_rfl) ?_
                refine RL.val (O.assign rfl) rfl ?_
                refine RL.nil ?_
                refine KQ.then_k ?_
                replace hM := hM.pick [] rfl (by decide)
                exact fun a ha => ⟨false, ha.less (less_cons rfl less_nil), hM, hF⟩
            · rw [if_neg (ne_true hc)] at hF
              refine RL.brun1 13 81 false (by kernel_rfl) ?_
              refine RL.val (O.assign rfl) rfl ?_
              refine RL.nil ?_
              refine KQ.then_k ?_
              replace hM := hM.pick [] rfl (by decide)
              exact fun a ha => ⟨false, ha.less (less_cons rfl less_nil), hM, hF⟩
          · rw [if_neg (ne_true hc)] at hF
            refine RL.brun1 20 81 false (by kernel_rfl) ?_
            refine RL.val (O.assign rfl) rfl ?_
            refine RL.nil ?_
            refine KQ.then_k ?_
            replace hM := hM.pick [] rfl (by decide)
            exact fun a ha => ⟨false, ha.less (less_cons rfl less_nil), hM, hF⟩
        · rw [if_neg (ne_true hc)] at hF
          refine RL.brun1 27 81 false (by kernel_rfl) ?_
          refine RL.val (O.assign rfl) rfl ?_
          refine RL.nil ?_
          refine KQ.then_k ?_
          replace hM := hM.pick [] rfl (by decide)
          exact fun a ha => ⟨false, ha.less (less_cons rfl less_nil), hM, hF⟩
      · rw [if_neg (ne_true hc)] at hF
        refine RL.brun1 34 81 false (by kernel_rfl) ?_
        refine RL.val (O.assign rfl) rfl ?_
        refine RL.nil ?_
        refine KQ.then_k ?_
        replace hM := hM.pick [] rfl (by decide)
        exact fun a ha => ⟨false, ha.less (less_cons rfl less_nil), hM, hF⟩
    · rintro a w25 ⟨t24, ha, hM, hF⟩
      refine KC.app ha ?_
      clear ha
      unfold F_ip_Same_j2 at hF
      refine KC.ret ?_
      have hE := Option.some.inj hF
      clear hF
      subst hE
      refine KQ.rets Try.results17 (RVs.cons (RV.tm rfl) RVs.nil) ?_
      exact ⟨_, rfl, rfl, hM⟩
end Go.Proofs.Ytjfdfjmnajjjaaa
