/- Printed by a program of this claim: each call returns what the plain function of its name gives. -/
import Derived.Test.YtcinagdkkclapaaW1
set_option linter.unusedVariables false
namespace Go.Proofs.Ytcinagdkkclapaa
open Go Go.Ox Go.RowKit
set_option maxRecDepth 100000 in
set_option maxHeartbeats 40000000 in
theorem c_trans_Same (w : World) (av1 : T_trans_Segment) (A2 : Option Addr) (c3 : Nat) (hr4 : Rd w A2 c3 1 av1.f_Options.length (av1.f_Options.flatMap (eI .u8))) (A5 : Option Addr) (c6 : Nat) (hr7 : Rd w A5 c6 1 av1.f_Data.length (av1.f_Data.flatMap (eI .u8))) (b8 : T_trans_Segment) (A9 : Option Addr) (c10 : Nat) (hr11 : Rd w A9 c10 1 b8.f_Options.length (b8.f_Options.flatMap (eI .u8))) (A12 : Option Addr) (c13 : Nat) (hr14 : Rd w A12 c13 1 b8.f_Data.length (b8.f_Data.flatMap (eI .u8))) (r : Bool) (hF : F_trans_Same av1 b8 = some r) :
  CallsR Try.prog 15 [.agg #[v8 av1.f_Proto, v16 av1.f_Src, v16 av1.f_Dst, v32 av1.f_Seq, v32 av1.f_Ack, v8 av1.f_Flags, v16 av1.f_Window, v16 av1.f_Urgent, .slice A2 (av1.f_Options).length c3, v8 av1.f_Type, v8 av1.f_Code, .slice A5 (av1.f_Data).length c6], .agg #[v8 b8.f_Proto, v16 b8.f_Src, v16 b8.f_Dst, v32 b8.f_Seq, v32 b8.f_Ack, v8 b8.f_Flags, v16 b8.f_Window, v16 b8.f_Urgent, .slice A9 (b8.f_Options).length c10, v8 b8.f_Type, v8 b8.f_Code, .slice A12 (b8.f_Data).length c13]] w (fun v w' => v = vB r ∧ Mem w [] w' []) := by
 refine calls_KC Try.func15 rfl Try.ntmps15 rfl ?_
 have hM := Mem.init w
 unfold F_trans_Same at hF
 refine sr fun Q15 hQ15 => ?_
 refine RL.eff (E.box (vs := [v8 av1.f_Proto, v16 av1.f_Src, v16 av1.f_Dst, v32 av1.f_Seq, v32 av1.f_Ack, v8 av1.f_Flags, v16 av1.f_Window, v16 av1.f_Urgent, .slice A2 (av1.f_Options).length c3, v8 av1.f_Type, v8 av1.f_Code, .slice A5 (av1.f_Data).length c6]) hM rfl rfl) rfl fun v w17 hv => ?_
 clear hM
 obtain ⟨g16, rfl, hM, hf⟩ := hv
 refine RL.eff (E.box (vs := [v8 b8.f_Proto, v16 b8.f_Src, v16 b8.f_Dst, v32 b8.f_Seq, v32 b8.f_Ack, v8 b8.f_Flags, v16 b8.f_Window, v16 b8.f_Urgent, .slice A9 (b8.f_Options).length c10, v8 b8.f_Type, v8 b8.f_Code, .slice A12 (b8.f_Data).length c13]) hM rfl rfl) rfl fun v w20 hv => ?_
 clear hM
 obtain ⟨g19, rfl, hM, hf⟩ := hv
 refine va rfl rfl ?_
 refine nt hQ15 ?_
 clear hQ15 Q15
 refine KC.cut (fun a w25 => ∃ (ports24 : Bool), Kn 91 [(2, .pointer (some ⟨g16, 0, none⟩)), (3, .pointer (some ⟨g19, 0, none⟩)), (5, vB ports24)] a ∧ Mem w [] w25 [.box g16 26 [v8 av1.f_Proto, v16 av1.f_Src, v16 av1.f_Dst, v32 av1.f_Seq, v32 av1.f_Ack, v8 av1.f_Flags, v16 av1.f_Window, v16 av1.f_Urgent, .slice A2 (av1.f_Options).length c3, v8 av1.f_Type, v8 av1.f_Code, .slice A5 (av1.f_Data).length c6], .box g19 26 [v8 b8.f_Proto, v16 b8.f_Src, v16 b8.f_Dst, v32 b8.f_Seq, v32 b8.f_Ack, v8 b8.f_Flags, v16 b8.f_Window, v16 b8.f_Urgent, .slice A9 (b8.f_Options).length c10, v8 b8.f_Type, v8 b8.f_Code, .slice A12 (b8.f_Data).length c13]] ∧ F_trans_Same_j1 av1 b8 ports24 = some r) ?_ ?_
 ·refine KC.region ?_
  refine RL.val (O.fldA fl26_0 (by decide) rfl) rfl ?_
  refine RL.val (O.load sc5 rfl (Cs.adds [0] ((hM.bx (i := 0) rfl)) rfl)) rfl ?_
  refine RL.val (O.fldA fl26_0 (by decide) rfl) rfl ?_
  refine RL.val (O.load sc5 rfl (Cs.adds [0] ((hM.bx (i := 1) rfl)) rfl)) rfl ?_
  refine RL.val (O.eql rfl rfl) rfl ?_
  refine vm rfl rfl ?_
  refine RL.bcase (t := 12) rfl (fun hc => ?_) (fun hc => ?_)
  ·rw [if_pos hc] at hF
   refine RL.gval rfl rfl (O.fldA fl26_1 (by decide) rfl) rfl ?_
   refine RL.gval rfl rfl (O.load sc22 rfl (Cs.adds [1] ((hM.bx (i := 0) rfl)) rfl)) rfl ?_
   refine RL.gval rfl rfl (O.fldA fl26_1 (by decide) rfl) rfl ?_
   refine RL.gval rfl rfl (O.load sc22 rfl (Cs.adds [1] ((hM.bx (i := 1) rfl)) rfl)) rfl ?_
   refine RL.gval rfl rfl (O.eql rfl rfl) rfl ?_
   refine RL.val (O.pickt rfl rfl) rfl ?_
   refine vm rfl rfl ?_
   refine RL.bcase (t := 19) rfl (fun hc => ?_) (fun hc => ?_)
   ·rw [if_pos hc] at hF
    refine RL.gval rfl rfl (O.fldA fl26_2 (by decide) rfl) rfl ?_
    refine RL.gval rfl rfl (O.load sc22 rfl (Cs.adds [2] ((hM.bx (i := 0) rfl)) rfl)) rfl ?_
    refine RL.gval rfl rfl (O.fldA fl26_2 (by decide) rfl) rfl ?_
    refine RL.gval rfl rfl (O.load sc22 rfl (Cs.adds [2] ((hM.bx (i := 1) rfl)) rfl)) rfl ?_
    refine RL.gval rfl rfl (O.eql rfl rfl) rfl ?_
    refine RL.val (O.pickt rfl rfl) rfl ?_
    refine vm rfl rfl ?_
    refine RL.bcase (t := 26) rfl (fun hc => ?_) (fun hc => ?_)
    ·rw [if_pos hc] at hF
     refine RL.gval rfl rfl (O.fldA fl26_9 (by decide) rfl) rfl ?_
     refine RL.gval rfl rfl (O.load sc5 rfl (Cs.adds [9] ((hM.bx (i := 0) rfl)) rfl)) rfl ?_
     refine RL.gval rfl rfl (O.fldA fl26_9 (by decide) rfl) rfl ?_
     refine RL.gval rfl rfl (O.load sc5 rfl (Cs.adds [9] ((hM.bx (i := 1) rfl)) rfl)) rfl ?_
     refine RL.gval rfl rfl (O.eql rfl rfl) rfl ?_
     refine RL.val (O.pickt rfl rfl) rfl ?_
     refine vm rfl rfl ?_
     refine RL.bcase (t := 33) rfl (fun hc => ?_) (fun hc => ?_)
     ·rw [if_pos hc] at hF
      refine RL.gval rfl rfl (O.fldA fl26_10 (by decide) rfl) rfl ?_
      refine RL.gval rfl rfl (O.load sc5 rfl (Cs.adds [10] ((hM.bx (i := 0) rfl)) rfl)) rfl ?_
      refine RL.gval rfl rfl (O.fldA fl26_10 (by decide) rfl) rfl ?_
      refine RL.gval rfl rfl (O.load sc5 rfl (Cs.adds [10] ((hM.bx (i := 1) rfl)) rfl)) rfl ?_
      refine RL.gval rfl rfl (O.eql rfl rfl) rfl ?_
      refine RL.val (O.pickt rfl rfl) rfl ?_
      refine va rfl rfl ?_
      refine RL.nil ?_
      refine KQ.then_k ?_
      exact fun a ha => ⟨(av1.f_Code == b8.f_Code), ha.less (less_cons rfl (less_cons rfl (less_cons rfl less_nil))), hM, hF⟩
     rw [if_neg (ne_true hc)] at hF
     refine RL.brun1 6 39 false (by kernel_rfl) ?_
     refine va rfl rfl ?_
     refine RL.nil ?_
     refine KQ.then_k ?_
     exact fun a ha => ⟨false, ha.less (less_cons rfl (less_cons rfl (less_cons rfl less_nil))), hM, hF⟩
    rw [if_neg (ne_true hc)] at hF
    refine RL.brun1 13 39 false (by kernel_rfl) ?_
    refine va rfl rfl ?_
    refine RL.nil ?_
    refine KQ.then_k ?_
    exact fun a ha => ⟨false, ha.less (less_cons rfl (less_cons rfl (less_cons rfl less_nil))), hM, hF⟩
   rw [if_neg (ne_true hc)] at hF
   refine RL.brun1 20 39 false (by kernel_rfl) ?_
   refine va rfl rfl ?_
   refine RL.nil ?_
   refine KQ.then_k ?_
   exact fun a ha => ⟨false, ha.less (less_cons rfl (less_cons rfl (less_cons rfl less_nil))), hM, hF⟩
  rw [if_neg (ne_true hc)] at hF
  refine RL.brun1 27 39 false (by kernel_rfl) ?_
  refine va rfl rfl ?_
  refine RL.nil ?_
  refine KQ.then_k ?_
  exact fun a ha => ⟨false, ha.less (less_cons rfl (less_cons rfl (less_cons rfl less_nil))), hM, hF⟩
 rintro a w25 ⟨ports24, ha, hM, hF⟩
 refine KC.app ha ?_
 clear ha
 unfold F_trans_Same_j1 at hF
 refine KC.cut (fun a w29 => ∃ (tcp28 : Bool), Kn 91 [(2, .pointer (some ⟨g16, 0, none⟩)), (3, .pointer (some ⟨g19, 0, none⟩)), (5, vB ports24), (6, vB tcp28)] a ∧ Mem w [] w29 [.box g16 26 [v8 av1.f_Proto, v16 av1.f_Src, v16 av1.f_Dst, v32 av1.f_Seq, v32 av1.f_Ack, v8 av1.f_Flags, v16 av1.f_Window, v16 av1.f_Urgent, .slice A2 (av1.f_Options).length c3, v8 av1.f_Type, v8 av1.f_Code, .slice A5 (av1.f_Data).length c6], .box g19 26 [v8 b8.f_Proto, v16 b8.f_Src, v16 b8.f_Dst, v32 b8.f_Seq, v32 b8.f_Ack, v8 b8.f_Flags, v16 b8.f_Window, v16 b8.f_Urgent, .slice A9 (b8.f_Options).length c10, v8 b8.f_Type, v8 b8.f_Code, .slice A12 (b8.f_Data).length c13]] ∧ F_trans_Same_j2 av1 b8 ports24 tcp28 = some r) ?_ ?_
 ·refine KC.region ?_
  refine RL.val (O.fldA fl26_3 (by decide) rfl) rfl ?_
  refine RL.val (O.load sc23 rfl (Cs.adds [3] ((hM.bx (i := 0) rfl)) rfl)) rfl ?_
  refine RL.val (O.fldA fl26_3 (by decide) rfl) rfl ?_
  refine RL.val (O.load sc23 rfl (Cs.adds [3] ((hM.bx (i := 1) rfl)) rfl)) rfl ?_
  refine RL.val (O.eql rfl rfl) rfl ?_
  refine vm rfl rfl ?_
  refine RL.bcase (t := 45) rfl (fun hc => ?_) (fun hc => ?_)
  ·rw [if_pos hc] at hF
   refine RL.gval rfl rfl (O.fldA fl26_4 (by decide) rfl) rfl ?_
   refine RL.gval rfl rfl (O.load sc23 rfl (Cs.adds [4] ((hM.bx (i := 0) rfl)) rfl)) rfl ?_
   refine RL.gval rfl rfl (O.fldA fl26_4 (by decide) rfl) rfl ?_
   refine RL.gval rfl rfl (O.load sc23 rfl (Cs.adds [4] ((hM.bx (i := 1) rfl)) rfl)) rfl ?_
   refine RL.gval rfl rfl (O.eql rfl rfl) rfl ?_
   refine RL.val (O.pickt rfl rfl) rfl ?_
   refine vm rfl rfl ?_
   refine RL.bcase (t := 52) rfl (fun hc => ?_) (fun hc => ?_)
   ·rw [if_pos hc] at hF
    refine RL.gval rfl rfl (O.fldA fl26_5 (by decide) rfl) rfl ?_
    refine RL.gval rfl rfl (O.load sc5 rfl (Cs.adds [5] ((hM.bx (i := 0) rfl)) rfl)) rfl ?_
    refine RL.gval rfl rfl (O.fldA fl26_5 (by decide) rfl) rfl ?_
    refine RL.gval rfl rfl (O.load sc5 rfl (Cs.adds [5] ((hM.bx (i := 1) rfl)) rfl)) rfl ?_
    refine RL.gval rfl rfl (O.eql rfl rfl) rfl ?_
    refine RL.val (O.pickt rfl rfl) rfl ?_
    refine vm rfl rfl ?_
    refine RL.bcase (t := 59) rfl (fun hc => ?_) (fun hc => ?_)
    ·rw [if_pos hc] at hF
     refine RL.gval rfl rfl (O.fldA fl26_6 (by decide) rfl) rfl ?_
     refine RL.gval rfl rfl (O.load sc22 rfl (Cs.adds [6] ((hM.bx (i := 0) rfl)) rfl)) rfl ?_
     refine RL.gval rfl rfl (O.fldA fl26_6 (by decide) rfl) rfl ?_
     refine RL.gval rfl rfl (O.load sc22 rfl (Cs.adds [6] ((hM.bx (i := 1) rfl)) rfl)) rfl ?_
     refine RL.gval rfl rfl (O.eql rfl rfl) rfl ?_
     refine RL.val (O.pickt rfl rfl) rfl ?_
     refine vm rfl rfl ?_
     refine RL.bcase (t := 66) rfl (fun hc => ?_) (fun hc => ?_)
     ·rw [if_pos hc] at hF
      refine RL.gval rfl rfl (O.fldA fl26_7 (by decide) rfl) rfl ?_
      refine RL.gval rfl rfl (O.load sc22 rfl (Cs.adds [7] ((hM.bx (i := 0) rfl)) rfl)) rfl ?_
      refine RL.gval rfl rfl (O.fldA fl26_7 (by decide) rfl) rfl ?_
      refine RL.gval rfl rfl (O.load sc22 rfl (Cs.adds [7] ((hM.bx (i := 1) rfl)) rfl)) rfl ?_
      refine RL.gval rfl rfl (O.eql rfl rfl) rfl ?_
      refine RL.val (O.pickt rfl rfl) rfl ?_
      refine va rfl rfl ?_
      refine RL.nil ?_
      refine KQ.then_k ?_
      exact fun a ha => ⟨(av1.f_Urgent == b8.f_Urgent), ha.less (less_cons rfl (less_cons rfl (less_cons rfl (less_cons rfl less_nil)))), hM, hF⟩
     rw [if_neg (ne_true hc)] at hF
     refine RL.brun1 6 72 false (by kernel_rfl) ?_
     refine va rfl rfl ?_
     refine RL.nil ?_
     refine KQ.then_k ?_
     exact fun a ha => ⟨false, ha.less (less_cons rfl (less_cons rfl (less_cons rfl (less_cons rfl less_nil)))), hM, hF⟩
    rw [if_neg (ne_true hc)] at hF
    refine RL.brun1 13 72 false (by kernel_rfl) ?_
    refine va rfl rfl ?_
    refine RL.nil ?_
    refine KQ.then_k ?_
    exact fun a ha => ⟨false, ha.less (less_cons rfl (less_cons rfl (less_cons rfl (less_cons rfl less_nil)))), hM, hF⟩
   rw [if_neg (ne_true hc)] at hF
   refine RL.brun1 20 72 false (by kernel_rfl) ?_
   refine va rfl rfl ?_
   refine RL.nil ?_
   refine KQ.then_k ?_
   exact fun a ha => ⟨false, ha.less (less_cons rfl (less_cons rfl (less_cons rfl (less_cons rfl less_nil)))), hM, hF⟩
  rw [if_neg (ne_true hc)] at hF
  refine RL.brun1 27 72 false (by kernel_rfl) ?_
  refine va rfl rfl ?_
  refine RL.nil ?_
  refine KQ.then_k ?_
  exact fun a ha => ⟨false, ha.less (less_cons rfl (less_cons rfl (less_cons rfl (less_cons rfl less_nil)))), hM, hF⟩
 rintro a w29 ⟨tcp28, ha, hM, hF⟩
 refine KC.app ha ?_
 clear ha
 unfold F_trans_Same_j2 at hF
 refine KC.cut (fun a w39 => ∃ (t38 : Bool), Kn 91 [(4, vB t38)] a ∧ Mem w [] w39 [] ∧ F_trans_Same_j3 t38 = some r) ?_ ?_
 ·refine KC.region ?_
  refine vm rfl rfl ?_
  refine vm rfl rfl ?_
  refine RL.bcase (t := 74) rfl (fun hc => ?_) (fun hc => ?_)
  ·rw [if_pos hc] at hF
   refine RL.gval rfl rfl (O.move rfl) rfl ?_
   refine RL.val (O.pickt rfl rfl) rfl ?_
   refine vm rfl rfl ?_
   refine RL.bcase (t := 77) rfl (fun hc => ?_) (fun hc => ?_)
   ·rw [if_pos hc] at hF
    refine RL.gval rfl rfl (O.fldA fl26_8 (by decide) rfl) rfl ?_
    refine RL.gval rfl rfl (O.load sc24 rfl (Cs.adds [8] ((hM.bx (i := 0) rfl)) rfl)) rfl ?_
    refine RL.gval rfl rfl (O.fldA fl26_8 (by decide) rfl) rfl ?_
    refine RL.gval rfl rfl (O.load sc24 rfl (Cs.adds [8] ((hM.bx (i := 1) rfl)) rfl)) rfl ?_
    refine obindE hF fun y30 hx31 hF => ?_
    refine RL.gcall rfl rfl Try.func37 bd37 rfl rfl (c_bytes_Equal _ _ _ av1.f_Options (hM.inp hr4 Off.nil) _ _ b8.f_Options (hM.inp hr11 Off.nil) _ hx31) fun v w32 hv => ?_
    obtain ⟨rfl, hN33⟩ := hv
    replace hM := hM.call0 hN33
    refine RL.val (O.pickt rfl rfl) rfl ?_
    refine vm rfl rfl ?_
    refine RL.bcase (t := 84) rfl (fun hc => ?_) (fun hc => ?_)
    ·rw [if_pos hc] at hF
     refine RL.gval rfl rfl (O.fldA fl26_11 (by decide) rfl) rfl ?_
     refine RL.gval rfl rfl (O.load sc24 rfl (Cs.adds [11] ((hM.bx (i := 0) rfl)) rfl)) rfl ?_
     refine RL.gval rfl rfl (O.fldA fl26_11 (by decide) rfl) rfl ?_
     refine RL.gval rfl rfl (O.load sc24 rfl (Cs.adds [11] ((hM.bx (i := 1) rfl)) rfl)) rfl ?_
     refine obindE hF fun y34 hx35 hF => ?_
     refine RL.gcall rfl rfl Try.func37 bd37 rfl rfl (c_bytes_Equal _ _ _ av1.f_Data (hM.inp hr7 Off.nil) _ _ b8.f_Data (hM.inp hr14 Off.nil) _ hx35) fun v w36 hv => ?_
     obtain ⟨rfl, hN37⟩ := hv
     replace hM := hM.call0 hN37
     refine RL.val (O.pickt rfl rfl) rfl ?_
     refine va rfl rfl ?_
     refine RL.nil ?_
     refine KQ.then_k ?_
     replace hM := hM.pick [] rfl (by decide)
     exact fun a ha => ⟨y34, ha.less (less_cons rfl less_nil), hM, hF⟩
    rw [if_neg (ne_true hc)] at hF
    refine RL.brun1 6 90 false (by kernel_rfl) ?_
    refine va rfl rfl ?_
    refine RL.nil ?_
    refine KQ.then_k ?_
    replace hM := hM.pick [] rfl (by decide)
    exact fun a ha => ⟨false, ha.less (less_cons rfl less_nil), hM, hF⟩
   rw [if_neg (ne_true hc)] at hF
   refine RL.brun1 13 90 false (by kernel_rfl) ?_
   refine va rfl rfl ?_
   refine RL.nil ?_
   refine KQ.then_k ?_
   replace hM := hM.pick [] rfl (by decide)
   exact fun a ha => ⟨false, ha.less (less_cons rfl less_nil), hM, hF⟩
  rw [if_neg (ne_true hc)] at hF
  refine RL.brun1 16 90 false (by kernel_rfl) ?_
  refine va rfl rfl ?_
  refine RL.nil ?_
  refine KQ.then_k ?_
  replace hM := hM.pick [] rfl (by decide)
  exact fun a ha => ⟨false, ha.less (less_cons rfl less_nil), hM, hF⟩
 rintro a w39 ⟨t38, ha, hM, hF⟩
 refine KC.app ha ?_
 clear ha
 unfold F_trans_Same_j3 at hF
 refine KC.ret ?_
 have hE := Option.some.inj hF
 clear hF
 subst hE
 refine KQ.rets Try.results15 (RVs.cons (RV.tm rfl) RVs.nil) ?_
 exact ⟨_, rfl, rfl, hM⟩
end Go.Proofs.Ytcinagdkkclapaa
