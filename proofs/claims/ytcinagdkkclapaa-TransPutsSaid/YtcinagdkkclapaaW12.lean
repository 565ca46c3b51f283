/- Printed by a program of this claim: each call returns what the plain function of its name gives. -/
import Derived.Test.YtcinagdkkclapaaW1
import Derived.Test.YtcinagdkkclapaaW11
set_option linter.unusedVariables false
namespace Go.Proofs.Ytcinagdkkclapaa
open Go Go.Ox Go.RowKit
set_option maxRecDepth 100000 in
set_option maxHeartbeats 40000000 in
theorem c_ref07_Right (w : World) (s1 : T_ref07_Segment) (r : Bool) (hF : F_ref07_Right s1 = some r) :
  CallsR Try.prog 14 [.agg #[v8 s1.f_Proto, v16 s1.f_Src, v16 s1.f_Dst, v32 s1.f_Seq, v32 s1.f_Ack, v8 s1.f_Flags, v16 s1.f_Window, v16 s1.f_Urgent, Value.string s1.f_Options, v8 s1.f_Type, v8 s1.f_Code, Value.string s1.f_Data]] w (fun v w' => v = vB r ∧ Mem w [] w' []) := by
 refine calls_KC Try.func14 rfl Try.ntmps14 rfl ?_
 have hM := Mem.init w
 unfold F_ref07_Right at hF
 refine sr fun Q2 hQ2 => ?_
 refine RL.eff (E.box (vs := [v8 s1.f_Proto, v16 s1.f_Src, v16 s1.f_Dst, v32 s1.f_Seq, v32 s1.f_Ack, v8 s1.f_Flags, v16 s1.f_Window, v16 s1.f_Urgent, Value.string s1.f_Options, v8 s1.f_Type, v8 s1.f_Code, Value.string s1.f_Data]) hM rfl rfl) rfl fun v w4 hv => ?_
 clear hM
 obtain ⟨g3, rfl, hM, hf⟩ := hv
 refine va rfl rfl ?_
 refine nt hQ2 ?_
 clear hQ2 Q2
 refine KC.seqH fun Q6 hQ6 => ?_
 refine KC.cut (fun a w17 => ∃ (t16 : Bool), Kn 90 [(1, .pointer (some ⟨g3, 0, none⟩)), (25, vB t16)] a ∧ Mem w [] w17 [.box g3 30 [v8 s1.f_Proto, v16 s1.f_Src, v16 s1.f_Dst, v32 s1.f_Seq, v32 s1.f_Ack, v8 s1.f_Flags, v16 s1.f_Window, v16 s1.f_Urgent, Value.string s1.f_Options, v8 s1.f_Type, v8 s1.f_Code, Value.string s1.f_Data]] ∧ F_ref07_Right_j1 s1 t16 = some r) ?_ ?_
 ·refine KC.region ?_
  refine RL.val (O.fldA fl30_0 (by decide) rfl) rfl ?_
  refine RL.val (O.load sc5 rfl (Cs.adds [0] ((hM.bx (i := 0) rfl)) rfl)) rfl ?_
  refine obindE hF fun y7 hx8 hF => ?_
  refine RL.call Try.func25 bd25 rfl rfl (c_ref07_Head _ s1.f_Proto _ hx8) fun v w9 hv => ?_
  obtain ⟨rfl, hN10⟩ := hv
  replace hM := hM.call0 hN10
  refine RL.val (O.eql rfl rfl) rfl ?_
  refine vm rfl rfl ?_
  refine RL.bcase (t := 8) rfl (fun hc => ?_) (fun hc => ?_)
  ·rw [if_pos hc] at hF
   refine RL.brun1 17 25 true (by kernel_rfl) ?_
   refine RL.nil ?_
   refine KQ.then_k ?_
   exact fun a ha => ⟨true, ha.less (less_cons rfl (less_cons rfl less_nil)), hM, hF⟩
  rw [if_neg (ne_true hc)] at hF
  refine RL.gval rfl rfl (O.loadN (cs := [v8 s1.f_Proto, v16 s1.f_Src, v16 s1.f_Dst, v32 s1.f_Seq, v32 s1.f_Ack, v8 s1.f_Flags, v16 s1.f_Window, v16 s1.f_Urgent, Value.string s1.f_Options, v8 s1.f_Type, v8 s1.f_Code, Value.string s1.f_Data]) ag30 rfl (Cs.addsN [] ((hM.bx (i := 0) rfl)) rfl)) rfl ?_
  refine obindE hF fun y11 hx12 hF => ?_
  refine RL.gcall rfl rfl Try.func27 bd27 rfl rfl (c_ref07_Length _ s1 _ hx12) fun v w13 hv => ?_
  obtain ⟨rfl, hN14⟩ := hv
  replace hM := hM.call0 hN14
  refine RL.gval rfl rfl (O.gtr rfl rfl) rfl ?_
  refine RL.val (O.pickf rfl rfl) rfl ?_
  refine vm rfl rfl ?_
  refine RL.bcase (t := 13) rfl (fun hc => ?_) (fun hc => ?_)
  ·rw [if_pos hc] at hF
   refine RL.brun1 12 25 true (by kernel_rfl) ?_
   refine RL.nil ?_
   refine KQ.then_k ?_
   exact fun a ha => ⟨true, ha.less (less_cons rfl (less_cons rfl less_nil)), hM, hF⟩
  rw [if_neg (ne_true hc)] at hF
  refine RL.gval rfl rfl (O.fldA fl30_8 (by decide) rfl) rfl ?_
  refine RL.gval rfl rfl (O.load sc9 rfl (Cs.adds [8] ((hM.bx (i := 0) rfl)) rfl)) rfl ?_
  refine RL.gval rfl rfl (O.lens Try.underlying9 rfl) rfl ?_
  refine RL.gval rfl rfl (O.rem rfl rfl (by decide)) rfl ?_
  refine RL.gval rfl rfl (O.neq rfl rfl) rfl ?_
  refine RL.val (O.pickf rfl rfl) rfl ?_
  refine vm rfl rfl ?_
  refine RL.bcase (t := 20) rfl (fun hc => ?_) (fun hc => ?_)
  ·rw [if_pos hc] at hF
   refine RL.brun1 5 25 true (by kernel_rfl) ?_
   refine RL.nil ?_
   refine KQ.then_k ?_
   exact fun a ha => ⟨true, ha.less (less_cons rfl (less_cons rfl less_nil)), hM, hF⟩
  rw [if_neg (ne_true hc)] at hF
  refine RL.gval rfl rfl (O.fldA fl30_8 (by decide) rfl) rfl ?_
  refine RL.gval rfl rfl (O.load sc9 rfl (Cs.adds [8] ((hM.bx (i := 0) rfl)) rfl)) rfl ?_
  refine RL.gval rfl rfl (O.lens Try.underlying9 rfl) rfl ?_
  refine RL.gval rfl rfl (O.gtr rfl rfl) rfl ?_
  refine RL.val (O.pickf rfl rfl) rfl ?_
  refine RL.nil ?_
  refine KQ.then_k ?_
  exact fun a ha => ⟨(decide (40 < (s1.f_Options.size : Int))), ha.less (less_cons rfl (less_cons rfl less_nil)), hM, hF⟩
 rintro a w17 ⟨t16, ha, hM, hF⟩
 refine KC.app ha ?_
 clear ha
 unfold F_ref07_Right_j1 at hF
 refine KC.cond rfl (fun hc => ?_) (fun hc => ?_)
 ·rw [if_pos hc] at hF
  refine sr fun Q18 hQ18 => ?_
  refine va rfl rfl ?_
  refine nt hQ18 ?_
  clear hQ18 Q18
  refine KC.ret ?_
  refine KQ.thr hQ6 ?_
  clear hQ6 Q6
  have hE := Option.some.inj hF
  clear hF
  subst hE
  replace hM := hM.pick [] rfl (by decide)
  refine KQ.rets Try.results14 (RVs.cons (RV.tm rfl) RVs.nil) ?_
  exact ⟨_, rfl, rfl, hM⟩
 rw [if_neg (ne_true hc)] at hF
 refine KC.skip ?_
 refine KQ.thn hQ6 ?_
 clear hQ6 Q6
 refine KC.cut (fun a w21 => ∃ (tcp20 : Bool), Kn 90 [(1, .pointer (some ⟨g3, 0, none⟩)), (3, vB tcp20)] a ∧ Mem w [] w21 [.box g3 30 [v8 s1.f_Proto, v16 s1.f_Src, v16 s1.f_Dst, v32 s1.f_Seq, v32 s1.f_Ack, v8 s1.f_Flags, v16 s1.f_Window, v16 s1.f_Urgent, Value.string s1.f_Options, v8 s1.f_Type, v8 s1.f_Code, Value.string s1.f_Data]] ∧ F_ref07_Right_j2 s1 tcp20 = some r) ?_ ?_
 ·refine KC.region ?_
  refine RL.val (O.fldA fl30_3 (by decide) rfl) rfl ?_
  refine RL.val (O.load sc23 rfl (Cs.adds [3] ((hM.bx (i := 0) rfl)) rfl)) rfl ?_
  refine RL.val (O.eql rfl rfl) rfl ?_
  refine vm rfl rfl ?_
  refine RL.bcase (t := 29) rfl (fun hc => ?_) (fun hc => ?_)
  ·rw [if_pos hc] at hF
   refine RL.gval rfl rfl (O.fldA fl30_4 (by decide) rfl) rfl ?_
   refine RL.gval rfl rfl (O.load sc23 rfl (Cs.adds [4] ((hM.bx (i := 0) rfl)) rfl)) rfl ?_
   refine RL.gval rfl rfl (O.eql rfl rfl) rfl ?_
   refine RL.val (O.pickt rfl rfl) rfl ?_
   refine vm rfl rfl ?_
   refine RL.bcase (t := 34) rfl (fun hc => ?_) (fun hc => ?_)
   ·rw [if_pos hc] at hF
    refine RL.gval rfl rfl (O.fldA fl30_5 (by decide) rfl) rfl ?_
    refine RL.gval rfl rfl (O.load sc5 rfl (Cs.adds [5] ((hM.bx (i := 0) rfl)) rfl)) rfl ?_
    refine RL.gval rfl rfl (O.eql rfl rfl) rfl ?_
    refine RL.val (O.pickt rfl rfl) rfl ?_
    refine vm rfl rfl ?_
    refine RL.bcase (t := 39) rfl (fun hc => ?_) (fun hc => ?_)
    ·rw [if_pos hc] at hF
     refine RL.gval rfl rfl (O.fldA fl30_6 (by decide) rfl) rfl ?_
     refine RL.gval rfl rfl (O.load sc22 rfl (Cs.adds [6] ((hM.bx (i := 0) rfl)) rfl)) rfl ?_
     refine RL.gval rfl rfl (O.eql rfl rfl) rfl ?_
     refine RL.val (O.pickt rfl rfl) rfl ?_
     refine vm rfl rfl ?_
     refine RL.bcase (t := 44) rfl (fun hc => ?_) (fun hc => ?_)
     ·rw [if_pos hc] at hF
      refine RL.gval rfl rfl (O.fldA fl30_7 (by decide) rfl) rfl ?_
      refine RL.gval rfl rfl (O.load sc22 rfl (Cs.adds [7] ((hM.bx (i := 0) rfl)) rfl)) rfl ?_
      refine RL.gval rfl rfl (O.eql rfl rfl) rfl ?_
      refine RL.val (O.pickt rfl rfl) rfl ?_
      refine vm rfl rfl ?_
      refine RL.bcase (t := 49) rfl (fun hc => ?_) (fun hc => ?_)
      ·rw [if_pos hc] at hF
       refine RL.gval rfl rfl (O.fldA fl30_8 (by decide) rfl) rfl ?_
       refine RL.gval rfl rfl (O.load sc9 rfl (Cs.adds [8] ((hM.bx (i := 0) rfl)) rfl)) rfl ?_
       refine RL.gval rfl rfl (O.streq rfl rfl) rfl ?_
       refine RL.val (O.pickt rfl rfl) rfl ?_
       refine va rfl rfl ?_
       refine RL.nil ?_
       refine KQ.then_k ?_
       exact fun a ha => ⟨(s1.f_Options.toList == (⟨#[]⟩ : ByteArray).toList), ha.less (less_cons rfl (less_cons rfl less_nil)), hM, hF⟩
      rw [if_neg (ne_true hc)] at hF
      refine RL.brun1 4 53 false (by kernel_rfl) ?_
      refine va rfl rfl ?_
      refine RL.nil ?_
      refine KQ.then_k ?_
      exact fun a ha => ⟨false, ha.less (less_cons rfl (less_cons rfl less_nil)), hM, hF⟩
     rw [if_neg (ne_true hc)] at hF
     refine RL.brun1 9 53 false (by kernel_rfl) ?_
     refine va rfl rfl ?_
     refine RL.nil ?_
     refine KQ.then_k ?_
     exact fun a ha => ⟨false, ha.less (less_cons rfl (less_cons rfl less_nil)), hM, hF⟩
    rw [if_neg (ne_true hc)] at hF
    refine RL.brun1 14 53 false (by kernel_rfl) ?_
    refine va rfl rfl ?_
    refine RL.nil ?_
    refine KQ.then_k ?_
    exact fun a ha => ⟨false, ha.less (less_cons rfl (less_cons rfl less_nil)), hM, hF⟩
   rw [if_neg (ne_true hc)] at hF
   refine RL.brun1 19 53 false (by kernel_rfl) ?_
   refine va rfl rfl ?_
   refine RL.nil ?_
   refine KQ.then_k ?_
   exact fun a ha => ⟨false, ha.less (less_cons rfl (less_cons rfl less_nil)), hM, hF⟩
  rw [if_neg (ne_true hc)] at hF
  refine RL.brun1 24 53 false (by kernel_rfl) ?_
  refine va rfl rfl ?_
  refine RL.nil ?_
  refine KQ.then_k ?_
  exact fun a ha => ⟨false, ha.less (less_cons rfl (less_cons rfl less_nil)), hM, hF⟩
 rintro a w21 ⟨tcp20, ha, hM, hF⟩
 refine KC.app ha ?_
 clear ha
 unfold F_ref07_Right_j2 at hF
 refine KC.seqH fun Q22 hQ22 => ?_
 refine sr fun Q23 hQ23 => ?_
 refine RL.val (O.fldA fl30_0 (by decide) rfl) rfl ?_
 refine RL.val (O.load sc5 rfl (Cs.adds [0] ((hM.bx (i := 0) rfl)) rfl)) rfl ?_
 refine nt hQ23 ?_
 clear hQ23 Q23
 refine KC.block ?_
 refine sr fun Q24 hQ24 => ?_
 refine RL.val (O.eql rfl rfl) rfl ?_
 refine va rfl rfl ?_
 refine nt hQ24 ?_
 clear hQ24 Q24
 refine KC.cond rfl (fun hc => ?_) (fun hc => ?_)
 ·rw [if_pos hc] at hF
  refine KC.cut (fun a w26 => ∃ (t25 : Bool), Kn 90 [(2, vB t25)] a ∧ Mem w [] w26 [] ∧ F_ref07_Right_j3 t25 = some r) ?_ ?_
  ·refine KC.region ?_
   refine RL.val (O.fldA fl30_9 (by decide) rfl) rfl ?_
   refine RL.val (O.load sc5 rfl (Cs.adds [9] ((hM.bx (i := 0) rfl)) rfl)) rfl ?_
   refine RL.val (O.eql rfl rfl) rfl ?_
   refine vm rfl rfl ?_
   refine RL.bcase (t := 61) rfl (fun hc => ?_) (fun hc => ?_)
   ·rw [if_pos hc] at hF
    refine RL.gval rfl rfl (O.fldA fl30_10 (by decide) rfl) rfl ?_
    refine RL.gval rfl rfl (O.load sc5 rfl (Cs.adds [10] ((hM.bx (i := 0) rfl)) rfl)) rfl ?_
    refine RL.gval rfl rfl (O.eql rfl rfl) rfl ?_
    refine RL.val (O.pickt rfl rfl) rfl ?_
    refine va rfl rfl ?_
    refine RL.nil ?_
    refine KQ.then_k ?_
    replace hM := hM.pick [] rfl (by decide)
    exact fun a ha => ⟨(s1.f_Code == 0), ha.less (less_cons rfl less_nil), hM, hF⟩
   rw [if_neg (ne_true hc)] at hF
   refine RL.brun1 4 65 false (by kernel_rfl) ?_
   refine va rfl rfl ?_
   refine RL.nil ?_
   refine KQ.then_k ?_
   replace hM := hM.pick [] rfl (by decide)
   exact fun a ha => ⟨false, ha.less (less_cons rfl less_nil), hM, hF⟩
  rintro a w26 ⟨t25, ha, hM, hF⟩
  refine KC.app ha ?_
  clear ha
  unfold F_ref07_Right_j3 at hF
  refine KC.ret ?_
  refine KQ.blk_r ?_
  refine KQ.thr hQ22 ?_
  clear hQ22 Q22
  have hE := Option.some.inj hF
  clear hF
  subst hE
  refine KQ.rets Try.results14 (RVs.cons (RV.tm rfl) RVs.nil) ?_
  exact ⟨_, rfl, rfl, hM⟩
 rw [if_neg (ne_true hc)] at hF
 refine sr fun Q27 hQ27 => ?_
 refine RL.val (O.eql rfl rfl) rfl ?_
 refine va rfl rfl ?_
 refine nt hQ27 ?_
 clear hQ27 Q27
 refine KC.cond rfl (fun hc => ?_) (fun hc => ?_)
 ·rw [if_pos hc] at hF
  refine KC.cut (fun a w29 => ∃ (t28 : Bool), Kn 90 [(2, vB t28)] a ∧ Mem w [] w29 [] ∧ F_ref07_Right_j4 t28 = some r) ?_ ?_
  ·refine KC.region ?_
   refine vm rfl rfl ?_
   refine vm rfl rfl ?_
   refine RL.bcase (t := 69) rfl (fun hc => ?_) (fun hc => ?_)
   ·rw [if_pos hc] at hF
    refine RL.gval rfl rfl (O.fldA fl30_9 (by decide) rfl) rfl ?_
    refine RL.gval rfl rfl (O.load sc5 rfl (Cs.adds [9] ((hM.bx (i := 0) rfl)) rfl)) rfl ?_
    refine RL.gval rfl rfl (O.eql rfl rfl) rfl ?_
    refine RL.val (O.pickt rfl rfl) rfl ?_
    refine vm rfl rfl ?_
    refine RL.bcase (t := 74) rfl (fun hc => ?_) (fun hc => ?_)
    ·rw [if_pos hc] at hF
     refine RL.gval rfl rfl (O.fldA fl30_10 (by decide) rfl) rfl ?_
     refine RL.gval rfl rfl (O.load sc5 rfl (Cs.adds [10] ((hM.bx (i := 0) rfl)) rfl)) rfl ?_
     refine RL.gval rfl rfl (O.eql rfl rfl) rfl ?_
     refine RL.val (O.pickt rfl rfl) rfl ?_
     refine va rfl rfl ?_
     refine RL.nil ?_
     refine KQ.then_k ?_
     replace hM := hM.pick [] rfl (by decide)
     exact fun a ha => ⟨(s1.f_Code == 0), ha.less (less_cons rfl less_nil), hM, hF⟩
    rw [if_neg (ne_true hc)] at hF
    refine RL.brun1 4 78 false (by kernel_rfl) ?_
    refine va rfl rfl ?_
    refine RL.nil ?_
    refine KQ.then_k ?_
    replace hM := hM.pick [] rfl (by decide)
    exact fun a ha => ⟨false, ha.less (less_cons rfl less_nil), hM, hF⟩
   rw [if_neg (ne_true hc)] at hF
   refine RL.brun1 9 78 false (by kernel_rfl) ?_
   refine va rfl rfl ?_
   refine RL.nil ?_
   refine KQ.then_k ?_
   replace hM := hM.pick [] rfl (by decide)
   exact fun a ha => ⟨false, ha.less (less_cons rfl less_nil), hM, hF⟩
  rintro a w29 ⟨t28, ha, hM, hF⟩
  refine KC.app ha ?_
  clear ha
  unfold F_ref07_Right_j4 at hF
  refine KC.ret ?_
  refine KQ.blk_r ?_
  refine KQ.thr hQ22 ?_
  clear hQ22 Q22
  have hE := Option.some.inj hF
  clear hF
  subst hE
  refine KQ.rets Try.results14 (RVs.cons (RV.tm rfl) RVs.nil) ?_
  exact ⟨_, rfl, rfl, hM⟩
 rw [if_neg (ne_true hc)] at hF
 refine KC.skip ?_
 refine KQ.blk_n ?_
 refine KQ.thn hQ22 ?_
 clear hQ22 Q22
 refine KC.cut (fun a w31 => ∃ (t30 : Bool), Kn 90 [(2, vB t30)] a ∧ Mem w [] w31 [] ∧ F_ref07_Right_j5 t30 = some r) ?_ ?_
 ·refine KC.region ?_
  refine vm rfl rfl ?_
  refine vm rfl rfl ?_
  refine RL.bcase (t := 80) rfl (fun hc => ?_) (fun hc => ?_)
  ·rw [if_pos hc] at hF
   refine RL.gval rfl rfl (O.fldA fl30_1 (by decide) rfl) rfl ?_
   refine RL.gval rfl rfl (O.load sc22 rfl (Cs.adds [1] ((hM.bx (i := 0) rfl)) rfl)) rfl ?_
   refine RL.gval rfl rfl (O.eql rfl rfl) rfl ?_
   refine RL.val (O.pickt rfl rfl) rfl ?_
   refine vm rfl rfl ?_
   refine RL.bcase (t := 85) rfl (fun hc => ?_) (fun hc => ?_)
   ·rw [if_pos hc] at hF
    refine RL.gval rfl rfl (O.fldA fl30_2 (by decide) rfl) rfl ?_
    refine RL.gval rfl rfl (O.load sc22 rfl (Cs.adds [2] ((hM.bx (i := 0) rfl)) rfl)) rfl ?_
    refine RL.gval rfl rfl (O.eql rfl rfl) rfl ?_
    refine RL.val (O.pickt rfl rfl) rfl ?_
    refine va rfl rfl ?_
    refine RL.nil ?_
    refine KQ.then_k ?_
    replace hM := hM.pick [] rfl (by decide)
    exact fun a ha => ⟨(s1.f_Dst == 0), ha.less (less_cons rfl less_nil), hM, hF⟩
   rw [if_neg (ne_true hc)] at hF
   refine RL.brun1 4 89 false (by kernel_rfl) ?_
   refine va rfl rfl ?_
   refine RL.nil ?_
   refine KQ.then_k ?_
   replace hM := hM.pick [] rfl (by decide)
   exact fun a ha => ⟨false, ha.less (less_cons rfl less_nil), hM, hF⟩
  rw [if_neg (ne_true hc)] at hF
  refine RL.brun1 9 89 false (by kernel_rfl) ?_
  refine va rfl rfl ?_
  refine RL.nil ?_
  refine KQ.then_k ?_
  replace hM := hM.pick [] rfl (by decide)
  exact fun a ha => ⟨false, ha.less (less_cons rfl less_nil), hM, hF⟩
 rintro a w31 ⟨t30, ha, hM, hF⟩
 refine KC.app ha ?_
 clear ha
 unfold F_ref07_Right_j5 at hF
 refine KC.ret ?_
 have hE := Option.some.inj hF
 clear hF
 subst hE
 refine KQ.rets Try.results14 (RVs.cons (RV.tm rfl) RVs.nil) ?_
 exact ⟨_, rfl, rfl, hM⟩
set_option maxRecDepth 100000 in
set_option maxHeartbeats 40000000 in
theorem c_ref07_one (w : World) (nv1 : Int) (r : ByteArray) (hF : F_ref07_one nv1 = some r) :
  CallsR Try.prog 42 [v8 nv1] w (fun v w' => v = Value.string r ∧ Mem w [] w' []) := by
 refine calls_KC Try.func42 rfl Try.ntmps42 rfl ?_
 have hM := Mem.init w
 unfold F_ref07_one at hF
 refine sr fun Q2 hQ2 => ?_
 refine va rfl rfl ?_
 refine nt hQ2 ?_
 clear hQ2 Q2
 refine sr fun Q3 hQ3 => ?_
 refine vm rfl rfl ?_
 refine RL.eff (E.bsl (enc := (eI .u8)) (xs := ([nv1] : List Int)) hM sl24 ze5 rfl rfl rfl (fun _ => rfl) rfl (by kernel_rfl) rfl) rfl fun v w4 hv => ?_
 clear hM
 obtain ⟨A5, rfl, hM, hf⟩ := hv
 refine RL.val (O.b2s sl24 Try.underlying5 Try.underlying9 rfl ((hM.rd (i := 0) rfl))) rfl ?_
 refine va rfl rfl ?_
 refine nt hQ3 ?_
 clear hQ3 Q3
 refine KC.ret ?_
 have hE := Option.some.inj hF
 clear hF
 subst hE
 replace hM := hM.pick [] rfl (by decide)
 refine KQ.rets Try.results42 (RVs.cons (RV.tm rfl) RVs.nil) ?_
 exact ⟨_, rfl, rfl, hM⟩
set_option maxRecDepth 100000 in
set_option maxHeartbeats 40000000 in
theorem c_ref01_Put_R : ∀ (kf : Nat) (w : World) (v1 : Int) (size2 : Int) (r : (List Int)) (hF : F_ref01_Put_R kf v1 size2 = some r),
  CallsR Try.prog 65 [v64 v1, vI size2] w (fun v w' => ∃ (A0 : Option Addr) (c0 : Nat), v = .slice A0 (r).length c0 ∧ Mem w [] w' [.row A0 c0 5 1 r.length (r.flatMap (eI .u8))]) := by
 intro kf
 induction kf with
 | zero => intro w v1 size2 r hF; exact (none_some hF).elim
 | succ kf ih =>
  intro w v1 size2 r hF
  refine calls_KC Try.func65 rfl Try.ntmps65 rfl ?_
  have hM := Mem.init w
  have hF : F_ref01_Put_B (F_ref01_Put_R kf) v1 size2 = some r := hF
  unfold F_ref01_Put_B at hF
  refine sr fun Q3 hQ3 => ?_
  refine va rfl rfl ?_
  refine nt hQ3 ?_
  clear hQ3 Q3
  refine KC.seqH fun Q4 hQ4 => ?_
  refine sr fun Q5 hQ5 => ?_
  refine vm rfl rfl ?_
  refine RL.val (O.eql rfl rfl) rfl ?_
  refine nt hQ5 ?_
  clear hQ5 Q5
  refine KC.cond rfl (fun hc => ?_) (fun hc => ?_)
  ·rw [if_pos hc] at hF
   refine sr fun Q6 hQ6 => ?_
   refine va rfl rfl ?_
   refine nt hQ6 ?_
   clear hQ6 Q6
   refine KC.ret ?_
   refine KQ.thr hQ4 ?_
   clear hQ4 Q4
   have hE := Option.some.inj hF
   clear hF
   subst hE
   replace hM := hM.nilrow 5 1
   refine KQ.rets Try.results65 (RVs.cons (RV.tm rfl) RVs.nil) ?_
   exact ⟨_, rfl, none, 0, rfl, hM⟩
  rw [if_neg (ne_true hc)] at hF
  refine KC.skip ?_
  refine KQ.thn hQ4 ?_
  clear hQ4 Q4
  refine sr fun Q7 hQ7 => ?_
  refine vm rfl rfl ?_
  refine RL.val (O.quo rfl rfl (by decide)) rfl ?_
  refine vm rfl rfl ?_
  refine RL.val (O.sub rfl rfl) rfl ?_
  refine obindE hF fun y8 hx9 hF => ?_
  refine RL.call Try.func65 bd65 rfl rfl (ih _ (IntKind.u64.wrap (Int.tdiv v1 256)) (IntKind.i64.wrap (size2 - 1)) _ hx9) fun v w10 hv => ?_
  obtain ⟨A12, c13, rfl, hN11⟩ := hv
  replace hM := hM.call hN11
  refine vm rfl rfl ?_
  refine RL.val (O.rem rfl rfl (by decide)) rfl ?_
  refine RL.val (O.conv un76 Try.underlying5 rfl) rfl ?_
  refine RL.eff (E.bsl (enc := (eI .u8)) (xs := ([(IntKind.u8.wrap (Int.tmod v1 256))] : List Int)) hM sl24 ze5 rfl rfl rfl (fun _ => rfl) rfl (by kernel_rfl) rfl) rfl fun v w15 hv => ?_
  clear hM
  obtain ⟨A16, rfl, hM, hf⟩ := hv
  refine cut_someE hF fun hq21 hF => ?_
  refine RL.eff (E.app (enc := (eI .u8)) (xs := y8) (ys := ([(IntKind.u8.wrap (Int.tmod v1 256))] : List Int)) (j := 0) hM rfl sl24 ze5 rfl rfl rfl rfl rfl (hM.rd (i := 1) rfl) (fun _ => One.all rfl) (of_decide_eq_true hq21)) rfl fun v w20 hv => ?_
  clear hM
  obtain ⟨A18, c19, rfl, hM, hf⟩ := hv
  refine va rfl rfl ?_
  refine nt hQ7 ?_
  clear hQ7 Q7
  refine KC.ret ?_
  have hE := Option.some.inj hF
  clear hF
  subst hE
  replace hM := hM.pick [0] rfl (by decide)
  refine KQ.rets Try.results65 (RVs.cons (RV.tm rfl) RVs.nil) ?_
  exact ⟨_, rfl, A18, c19, rfl, hM⟩
theorem c_ref01_Put (w : World) (v1 : Int) (size2 : Int) (r : (List Int)) (hF : F_ref01_Put v1 size2 = some r) :
  CallsR Try.prog 65 [v64 v1, vI size2] w (fun v w' => ∃ (A0 : Option Addr) (c0 : Nat), v = .slice A0 (r).length c0 ∧ Mem w [] w' [.row A0 c0 5 1 r.length (r.flatMap (eI .u8))]) := c_ref01_Put_R fuel0 w v1 size2 r hF
set_option maxRecDepth 100000 in
set_option maxHeartbeats 40000000 in
theorem c_ref07_two (w : World) (nv1 : Int) (r : ByteArray) (hF : F_ref07_two nv1 = some r) :
  CallsR Try.prog 43 [v16 nv1] w (fun v w' => v = Value.string r ∧ Mem w [] w' []) := by
 refine calls_KC Try.func43 rfl Try.ntmps43 rfl ?_
 have hM := Mem.init w
 unfold F_ref07_two at hF
 refine sr fun Q2 hQ2 => ?_
 refine va rfl rfl ?_
 refine nt hQ2 ?_
 clear hQ2 Q2
 refine sr fun Q3 hQ3 => ?_
 refine vm rfl rfl ?_
 refine RL.val (O.conv un22 Try.underlying76 rfl) rfl ?_
 refine obindE hF fun y4 hx5 hF => ?_
 refine RL.call Try.func65 bd65 rfl rfl (c_ref01_Put _ (IntKind.u64.wrap nv1) 2 _ hx5) fun v w6 hv => ?_
 obtain ⟨A8, c9, rfl, hN7⟩ := hv
 replace hM := hM.call hN7
 refine RL.val (O.b2s sl24 Try.underlying5 Try.underlying9 rfl ((hM.rd (i := 0) rfl))) rfl ?_
 refine va rfl rfl ?_
 refine nt hQ3 ?_
 clear hQ3 Q3
 refine KC.ret ?_
 have hE := Option.some.inj hF
 clear hF
 subst hE
 replace hM := hM.pick [] rfl (by decide)
 refine KQ.rets Try.results43 (RVs.cons (RV.tm rfl) RVs.nil) ?_
 exact ⟨_, rfl, rfl, hM⟩
set_option maxRecDepth 100000 in
set_option maxHeartbeats 40000000 in
theorem c_ref07_four (w : World) (nv1 : Int) (r : ByteArray) (hF : F_ref07_four nv1 = some r) :
  CallsR Try.prog 44 [v32 nv1] w (fun v w' => v = Value.string r ∧ Mem w [] w' []) := by
 refine calls_KC Try.func44 rfl Try.ntmps44 rfl ?_
 have hM := Mem.init w
 unfold F_ref07_four at hF
 refine sr fun Q2 hQ2 => ?_
 refine va rfl rfl ?_
 refine nt hQ2 ?_
 clear hQ2 Q2
 refine sr fun Q3 hQ3 => ?_
 refine vm rfl rfl ?_
 refine RL.val (O.conv un23 Try.underlying76 rfl) rfl ?_
 refine obindE hF fun y4 hx5 hF => ?_
 refine RL.call Try.func65 bd65 rfl rfl (c_ref01_Put _ (IntKind.u64.wrap nv1) 4 _ hx5) fun v w6 hv => ?_
 obtain ⟨A8, c9, rfl, hN7⟩ := hv
 replace hM := hM.call hN7
 refine RL.val (O.b2s sl24 Try.underlying5 Try.underlying9 rfl ((hM.rd (i := 0) rfl))) rfl ?_
 refine va rfl rfl ?_
 refine nt hQ3 ?_
 clear hQ3 Q3
 refine KC.ret ?_
 have hE := Option.some.inj hF
 clear hF
 subst hE
 replace hM := hM.pick [] rfl (by decide)
 refine KQ.rets Try.results44 (RVs.cons (RV.tm rfl) RVs.nil) ?_
 exact ⟨_, rfl, rfl, hM⟩
set_option maxRecDepth 100000 in
set_option maxHeartbeats 40000000 in
theorem c_ref07_pseudo (w : World) (proto1 : Int) (nv2 : Int) (src3 : ByteArray) (dst4 : ByteArray) (r : ByteArray × Bool) (hF : F_ref07_pseudo proto1 nv2 src3 dst4 = some r) :
  CallsR Try.prog 26 [v8 proto1, vI nv2, Value.string src3, Value.string dst4] w (fun v w' => v = .tuple #[Value.string r.1, vB r.2] ∧ Mem w [] w' []) := by
 refine calls_KC Try.func26 rfl Try.ntmps26 rfl ?_
 have hM := Mem.init w
 unfold F_ref07_pseudo at hF
 refine sr fun Q5 hQ5 => ?_
 refine va rfl rfl ?_
 refine va rfl rfl ?_
 refine nt hQ5 ?_
 clear hQ5 Q5
 refine KC.seqH fun Q6 hQ6 => ?_
 refine KC.cut (fun a w8 => ∃ (t7 : Bool), Kn 53 [(0, v8 proto1), (1, vI nv2), (2, Value.string src3), (3, Value.string dst4), (24, vB t7)] a ∧ Mem w [] w8 [] ∧ F_ref07_pseudo_j1 proto1 nv2 src3 dst4 t7 = some r) ?_ ?_
 ·refine KC.region ?_
  refine vm rfl rfl ?_
  refine RL.val (O.lens Try.underlying9 rfl) rfl ?_
  refine vm rfl rfl ?_
  refine RL.val (O.lens Try.underlying9 rfl) rfl ?_
  refine RL.val (O.neq rfl rfl) rfl ?_
  refine vm rfl rfl ?_
  refine RL.bcase (t := 15) rfl (fun hc => ?_) (fun hc => ?_)
  ·rw [if_pos hc] at hF
   refine RL.brun1 9 24 true (by kernel_rfl) ?_
   refine RL.nil ?_
   refine KQ.then_k ?_
   exact fun a ha => ⟨true, ha.less (less_cons rfl (less_cons rfl (less_cons rfl (less_cons rfl (less_cons rfl less_nil))))), hM, hF⟩
  rw [if_neg (ne_true hc)] at hF
  refine RL.gval rfl rfl (O.move rfl) rfl ?_
  refine RL.gval rfl rfl (O.lens Try.underlying9 rfl) rfl ?_
  refine RL.gval rfl rfl (O.neq rfl rfl) rfl ?_
  refine RL.gval rfl rfl (O.move rfl) rfl ?_
  refine RL.bcase (t := 19) rfl (fun hc => ?_) (fun hc => ?_)
  ·rw [if_pos hc] at hF
   refine RL.gval rfl rfl (O.move rfl) rfl ?_
   refine RL.gval rfl rfl (O.lens Try.underlying9 rfl) rfl ?_
   refine RL.gval rfl rfl (O.neq rfl rfl) rfl ?_
   refine RL.gval rfl rfl (O.pickt rfl rfl) rfl ?_
   refine RL.val (O.pickf rfl rfl) rfl ?_
   refine RL.nil ?_
   refine KQ.then_k ?_
   exact fun a ha => ⟨((src3.size : Int) != 16), ha.less (less_cons rfl (less_cons rfl (less_cons rfl (less_cons rfl (less_cons rfl less_nil))))), hM, hF⟩
  rw [if_neg (ne_true hc)] at hF
  refine RL.gskip rfl rfl rfl rfl ?_
  refine RL.gskip rfl rfl rfl rfl ?_
  refine RL.gskip rfl rfl rfl rfl ?_
  refine RL.gval rfl rfl (O.pickf rfl rfl) rfl ?_
  refine RL.val (O.pickf rfl rfl) rfl ?_
  refine RL.nil ?_
  refine KQ.then_k ?_
  exact fun a ha => ⟨false, ha.less (less_cons rfl (less_cons rfl (less_cons rfl (less_cons rfl (less_cons rfl less_nil))))), hM, hF⟩
 rintro a w8 ⟨t7, ha, hM, hF⟩
 refine KC.app ha ?_
 clear ha
 unfold F_ref07_pseudo_j1 at hF
 refine KC.cond rfl (fun hc => ?_) (fun hc => ?_)
 ·rw [if_pos hc] at hF
  refine sr fun Q9 hQ9 => ?_
  refine va rfl rfl ?_
  refine va rfl rfl ?_
  refine nt hQ9 ?_
  clear hQ9 Q9
  refine KC.ret ?_
  refine KQ.thr hQ6 ?_
  clear hQ6 Q6
  have hE := Option.some.inj hF
  clear hF
  subst hE
  refine KQ.rets Try.results26 (RVs.cons (RV.tm rfl) (RVs.cons (RV.tm rfl) RVs.nil)) ?_
  exact ⟨_, rfl, rfl, hM⟩
 rw [if_neg (ne_true hc)] at hF
 refine KC.skip ?_
 refine KQ.thn hQ6 ?_
 clear hQ6 Q6
 refine KC.seqH fun Q10 hQ10 => ?_
 refine sr fun Q11 hQ11 => ?_
 refine vm rfl rfl ?_
 refine RL.val (O.eql rfl rfl) rfl ?_
 refine nt hQ11 ?_
 clear hQ11 Q11
 refine KC.cond rfl (fun hc => ?_) (fun hc => ?_)
 ·rw [if_pos hc] at hF
  refine sr fun Q12 hQ12 => ?_
  refine va rfl rfl ?_
  refine va rfl rfl ?_
  refine nt hQ12 ?_
  clear hQ12 Q12
  refine KC.ret ?_
  refine KQ.thr hQ10 ?_
  clear hQ10 Q10
  have hE := Option.some.inj hF
  clear hF
  subst hE
  refine KQ.rets Try.results26 (RVs.cons (RV.tm rfl) (RVs.cons (RV.tm rfl) RVs.nil)) ?_
  exact ⟨_, rfl, rfl, hM⟩
 rw [if_neg (ne_true hc)] at hF
 refine KC.skip ?_
 refine KQ.thn hQ10 ?_
 clear hQ10 Q10
 refine KC.seqH fun Q13 hQ13 => ?_
 refine sr fun Q14 hQ14 => ?_
 refine vm rfl rfl ?_
 refine RL.val (O.lens Try.underlying9 rfl) rfl ?_
 refine RL.val (O.eql rfl rfl) rfl ?_
 refine nt hQ14 ?_
 clear hQ14 Q14
 refine KC.cond rfl (fun hc => ?_) (fun hc => ?_)
 ·rw [if_pos hc] at hF
  refine sr fun Q15 hQ15 => ?_
  refine vm rfl rfl ?_
  refine vm rfl rfl ?_
  refine cut_someE hF fun hq16 hF => ?_
  refine RL.val (O.addS (of_decide_eq_true hq16) rfl rfl) rfl ?_
  refine obindE hF fun y17 hx18 hF => ?_
  refine RL.call Try.func42 bd42 rfl rfl (c_ref07_one _ 0 _ hx18) fun v w19 hv => ?_
  obtain ⟨rfl, hN20⟩ := hv
  replace hM := hM.call0 hN20
  refine cut_someE hF fun hq21 hF => ?_
  refine RL.val (O.addS (of_decide_eq_true hq21) rfl rfl) rfl ?_
  refine vm rfl rfl ?_
  refine obindE hF fun y22 hx23 hF => ?_
  refine RL.call Try.func42 bd42 rfl rfl (c_ref07_one _ proto1 _ hx23) fun v w24 hv => ?_
  obtain ⟨rfl, hN25⟩ := hv
  replace hM := hM.call0 hN25
  refine cut_someE hF fun hq26 hF => ?_
  refine RL.val (O.addS (of_decide_eq_true hq26) rfl rfl) rfl ?_
  refine vm rfl rfl ?_
  refine RL.val (O.conv un3 Try.underlying22 rfl) rfl ?_
  refine obindE hF fun y27 hx28 hF => ?_
  refine RL.call Try.func43 bd43 rfl rfl (c_ref07_two _ (IntKind.u16.wrap nv2) _ hx28) fun v w29 hv => ?_
  obtain ⟨rfl, hN30⟩ := hv
  replace hM := hM.call0 hN30
  refine cut_someE hF fun hq31 hF => ?_
  refine RL.val (O.addS (of_decide_eq_true hq31) rfl rfl) rfl ?_
  refine va rfl rfl ?_
  refine va rfl rfl ?_
  refine nt hQ15 ?_
  clear hQ15 Q15
  refine KC.ret ?_
  refine KQ.thr hQ13 ?_
  clear hQ13 Q13
  have hE := Option.some.inj hF
  clear hF
  subst hE
  refine KQ.rets Try.results26 (RVs.cons (RV.tm rfl) (RVs.cons (RV.tm rfl) RVs.nil)) ?_
  exact ⟨_, rfl, rfl, hM⟩
 rw [if_neg (ne_true hc)] at hF
 refine KC.skip ?_
 refine KQ.thn hQ13 ?_
 clear hQ13 Q13
 refine sr fun Q32 hQ32 => ?_
 refine vm rfl rfl ?_
 refine vm rfl rfl ?_
 refine cut_someE hF fun hq33 hF => ?_
 refine RL.val (O.addS (of_decide_eq_true hq33) rfl rfl) rfl ?_
 refine vm rfl rfl ?_
 refine RL.val (O.conv un3 Try.underlying23 rfl) rfl ?_
 refine obindE hF fun y34 hx35 hF => ?_
 refine RL.call Try.func44 bd44 rfl rfl (c_ref07_four _ (IntKind.u32.wrap nv2) _ hx35) fun v w36 hv => ?_
 obtain ⟨rfl, hN37⟩ := hv
 replace hM := hM.call0 hN37
 refine cut_someE hF fun hq38 hF => ?_
 refine RL.val (O.addS (of_decide_eq_true hq38) rfl rfl) rfl ?_
 refine vm rfl rfl ?_
 refine RL.val (O.conv un5 Try.underlying23 rfl) rfl ?_
 refine obindE hF fun y39 hx40 hF => ?_
 refine RL.call Try.func44 bd44 rfl rfl (c_ref07_four _ (IntKind.u32.wrap proto1) _ hx40) fun v w41 hv => ?_
 obtain ⟨rfl, hN42⟩ := hv
 replace hM := hM.call0 hN42
 refine cut_someE hF fun hq43 hF => ?_
 refine RL.val (O.addS (of_decide_eq_true hq43) rfl rfl) rfl ?_
 refine va rfl rfl ?_
 refine va rfl rfl ?_
 refine nt hQ32 ?_
 clear hQ32 Q32
 refine KC.ret ?_
 have hE := Option.some.inj hF
 clear hF
 subst hE
 refine KQ.rets Try.results26 (RVs.cons (RV.tm rfl) (RVs.cons (RV.tm rfl) RVs.nil)) ?_
 exact ⟨_, rfl, rfl, hM⟩
end Go.Proofs.Ytcinagdkkclapaa
