/- Printed by a program of this claim: each call returns what the plain function of its name gives. -/
import Derived.Test.YtcinagdkkclapaaW1
import Derived.Test.YtcinagdkkclapaaW2
import Derived.Test.YtcinagdkkclapaaW7
import Derived.Test.YtcinagdkkclapaaW10
import Derived.Test.YtcinagdkkclapaaW11
import Derived.Test.YtcinagdkkclapaaW18
import Derived.Test.YtcinagdkkclapaaW20
set_option linter.unusedVariables false
namespace Go.Proofs.Ytcinagdkkclapaa
open Go Go.Ox Go.RowKit
set_option maxRecDepth 100000 in
set_option maxHeartbeats 40000000 in
theorem c_law07_shorter (w : World) (proto1 : Int) (A3 : Option Addr) (c4 : Nat) (b2 : List Int) (hr5 : Rd w A3 c4 1 b2.length (b2.flatMap (eI .u8))) (atv6 : Int) (r : Bool) (hF : F_law07_shorter proto1 b2 atv6 = some r) :
  CallsR Try.prog 24 [v8 proto1, .slice A3 (b2).length c4, vI atv6] w (fun v w' => v = vB r ∧ Mem w [] w' []) := by
 refine calls_KC Try.func24 rfl Try.ntmps24 rfl ?_
 have hM := Mem.init w
 unfold F_law07_shorter at hF
 refine sr fun Q7 hQ7 => ?_
 refine va rfl rfl ?_
 refine nt hQ7 ?_
 clear hQ7 Q7
 refine KC.cut (fun a w9 => ∃ (t8 : Bool), Kn 17 [(6, vB t8)] a ∧ Mem w [] w9 [] ∧ F_law07_shorter_j1 t8 = some r) ?_ ?_
 ·refine KC.region ?_
  refine vm rfl rfl ?_
  refine RL.val (O.eql rfl rfl) rfl ?_
  refine vm rfl rfl ?_
  refine RL.bcase (t := 9) rfl (fun hc => ?_) (fun hc => ?_)
  ·rw [if_pos hc] at hF
   refine RL.gval rfl rfl (O.move rfl) rfl ?_
   refine RL.gval rfl rfl (O.eql rfl rfl) rfl ?_
   refine RL.gval rfl rfl (O.move rfl) rfl ?_
   refine RL.bcase (t := 12) rfl (fun hc => ?_) (fun hc => ?_)
   ·rw [if_pos hc] at hF
    refine RL.gskip rfl rfl rfl rfl ?_
    refine RL.gskip rfl rfl rfl rfl ?_
    refine RL.gval rfl rfl (O.pickt rfl rfl) rfl ?_
    refine RL.val (O.pickt rfl rfl) rfl ?_
    refine va rfl rfl ?_
    refine RL.nil ?_
    refine KQ.then_k ?_
    exact fun a ha => ⟨true, ha.less (less_cons rfl less_nil), hM, hF⟩
   rw [if_neg (ne_true hc)] at hF
   refine RL.gval rfl rfl (O.move rfl) rfl ?_
   refine RL.gval rfl rfl (O.eql rfl rfl) rfl ?_
   refine RL.gval rfl rfl (O.pickf rfl rfl) rfl ?_
   refine RL.val (O.pickt rfl rfl) rfl ?_
   refine va rfl rfl ?_
   refine RL.nil ?_
   refine KQ.then_k ?_
   exact fun a ha => ⟨(atv6 == 5), ha.less (less_cons rfl less_nil), hM, hF⟩
  rw [if_neg (ne_true hc)] at hF
  refine RL.brun1 7 16 false (by kernel_rfl) ?_
  refine va rfl rfl ?_
  refine RL.nil ?_
  refine KQ.then_k ?_
  exact fun a ha => ⟨false, ha.less (less_cons rfl less_nil), hM, hF⟩
 rintro a w9 ⟨t8, ha, hM, hF⟩
 refine KC.app ha ?_
 clear ha
 unfold F_law07_shorter_j1 at hF
 refine KC.ret ?_
 have hE := Option.some.inj hF
 clear hF
 subst hE
 refine KQ.rets Try.results24 (RVs.cons (RV.tm rfl) RVs.nil) ?_
 exact ⟨_, rfl, rfl, hM⟩
set_option maxRecDepth 100000 in
set_option maxHeartbeats 40000000 in
theorem c_law07_TransBack (w : World) (s1 : T_trans_Segment) (A2 : Option Addr) (c3 : Nat) (hr4 : Rd w A2 c3 1 s1.f_Options.length (s1.f_Options.flatMap (eI .u8))) (A5 : Option Addr) (c6 : Nat) (hr7 : Rd w A5 c6 1 s1.f_Data.length (s1.f_Data.flatMap (eI .u8))) (A9 : Option Addr) (c10 : Nat) (src8 : List Int) (hr11 : Rd w A9 c10 1 src8.length (src8.flatMap (eI .u8))) (A13 : Option Addr) (c14 : Nat) (dst12 : List Int) (hr15 : Rd w A13 c14 1 dst12.length (dst12.flatMap (eI .u8))) (atv16 : Int) (byv17 : Int) (r : Bool) (hF : F_law07_TransBack s1 src8 dst12 atv16 byv17 = some r) :
  CallsR Try.prog 5 [.agg #[v8 s1.f_Proto, v16 s1.f_Src, v16 s1.f_Dst, v32 s1.f_Seq, v32 s1.f_Ack, v8 s1.f_Flags, v16 s1.f_Window, v16 s1.f_Urgent, .slice A2 (s1.f_Options).length c3, v8 s1.f_Type, v8 s1.f_Code, .slice A5 (s1.f_Data).length c6], .slice A9 (src8).length c10, .slice A13 (dst12).length c14, vI atv16, v8 byv17] w (fun v w' => v = vB r ∧ Mem w [] w' []) := by
 refine calls_KC Try.func5 rfl Try.ntmps5 rfl ?_
 have hM := Mem.init w
 unfold F_law07_TransBack at hF
 refine sr fun Q18 hQ18 => ?_
 refine RL.eff (E.box (vs := [v8 s1.f_Proto, v16 s1.f_Src, v16 s1.f_Dst, v32 s1.f_Seq, v32 s1.f_Ack, v8 s1.f_Flags, v16 s1.f_Window, v16 s1.f_Urgent, .slice A2 (s1.f_Options).length c3, v8 s1.f_Type, v8 s1.f_Code, .slice A5 (s1.f_Data).length c6]) hM rfl rfl) rfl fun v w20 hv => ?_
 clear hM
 obtain ⟨g19, rfl, hM, hf⟩ := hv
 refine va rfl rfl ?_
 refine nt hQ18 ?_
 clear hQ18 Q18
 refine KC.seqH fun Q22 hQ22 => ?_
 refine KC.cut (fun a w25 => ∃ (t24 : Bool), Kn 140 [(1, .slice A9 (src8).length c10), (2, .slice A13 (dst12).length c14), (3, vI atv16), (4, v8 byv17), (5, .pointer (some ⟨g19, 0, none⟩)), (36, vB t24)] a ∧ Mem w [] w25 [.box g19 26 [v8 s1.f_Proto, v16 s1.f_Src, v16 s1.f_Dst, v32 s1.f_Seq, v32 s1.f_Ack, v8 s1.f_Flags, v16 s1.f_Window, v16 s1.f_Urgent, .slice A2 (s1.f_Options).length c3, v8 s1.f_Type, v8 s1.f_Code, .slice A5 (s1.f_Data).length c6]] ∧ F_law07_TransBack_j1 s1 src8 dst12 atv16 byv17 t24 = some r) ?_ ?_
 ·refine KC.region ?_
  refine RL.val (O.fldA fl26_8 (by decide) rfl) rfl ?_
  refine RL.val (O.load sc24 rfl (Cs.adds [8] ((hM.bx (i := 0) rfl)) rfl)) rfl ?_
  refine RL.val (O.len sl24 rfl) rfl ?_
  refine RL.val (O.gtr rfl rfl) rfl ?_
  refine vm rfl rfl ?_
  refine RL.bcase (t := 21) rfl (fun hc => ?_) (fun hc => ?_)
  ·rw [if_pos hc] at hF
   refine RL.brun1 15 36 true (by kernel_rfl) ?_
   refine RL.nil ?_
   refine KQ.then_k ?_
   exact fun a ha => ⟨true, ha.less (less_cons rfl (less_cons rfl (less_cons rfl (less_cons rfl (less_cons rfl (less_cons rfl less_nil)))))), hM, hF⟩
  rw [if_neg (ne_true hc)] at hF
  refine RL.gval rfl rfl (O.fldA fl26_11 (by decide) rfl) rfl ?_
  refine RL.gval rfl rfl (O.load sc24 rfl (Cs.adds [11] ((hM.bx (i := 0) rfl)) rfl)) rfl ?_
  refine RL.gval rfl rfl (O.len sl24 rfl) rfl ?_
  refine RL.gval rfl rfl (O.gtr rfl rfl) rfl ?_
  refine RL.val (O.pickf rfl rfl) rfl ?_
  refine vm rfl rfl ?_
  refine RL.bcase (t := 27) rfl (fun hc => ?_) (fun hc => ?_)
  ·rw [if_pos hc] at hF
   refine RL.brun1 9 36 true (by kernel_rfl) ?_
   refine RL.nil ?_
   refine KQ.then_k ?_
   exact fun a ha => ⟨true, ha.less (less_cons rfl (less_cons rfl (less_cons rfl (less_cons rfl (less_cons rfl (less_cons rfl less_nil)))))), hM, hF⟩
  rw [if_neg (ne_true hc)] at hF
  refine RL.gval rfl rfl (O.move rfl) rfl ?_
  refine RL.gval rfl rfl (O.len sl24 rfl) rfl ?_
  refine RL.gval rfl rfl (O.gtr rfl rfl) rfl ?_
  refine RL.val (O.pickf rfl rfl) rfl ?_
  refine vm rfl rfl ?_
  refine RL.bcase (t := 32) rfl (fun hc => ?_) (fun hc => ?_)
  ·rw [if_pos hc] at hF
   refine RL.brun1 4 36 true (by kernel_rfl) ?_
   refine RL.nil ?_
   refine KQ.then_k ?_
   exact fun a ha => ⟨true, ha.less (less_cons rfl (less_cons rfl (less_cons rfl (less_cons rfl (less_cons rfl (less_cons rfl less_nil)))))), hM, hF⟩
  rw [if_neg (ne_true hc)] at hF
  refine RL.gval rfl rfl (O.move rfl) rfl ?_
  refine RL.gval rfl rfl (O.len sl24 rfl) rfl ?_
  refine RL.gval rfl rfl (O.gtr rfl rfl) rfl ?_
  refine RL.val (O.pickf rfl rfl) rfl ?_
  refine RL.nil ?_
  refine KQ.then_k ?_
  exact fun a ha => ⟨(decide (40 < (dst12.length : Int))), ha.less (less_cons rfl (less_cons rfl (less_cons rfl (less_cons rfl (less_cons rfl (less_cons rfl less_nil)))))), hM, hF⟩
 rintro a w25 ⟨t24, ha, hM, hF⟩
 refine KC.app ha ?_
 clear ha
 unfold F_law07_TransBack_j1 at hF
 refine KC.cond rfl (fun hc => ?_) (fun hc => ?_)
 ·rw [if_pos hc] at hF
  refine sr fun Q26 hQ26 => ?_
  refine obindE hF fun y27 hx28 hF => ?_
  refine RL.call Try.func8 bd8 rfl rfl (c_law07_works _ _ hx28) fun v w29 hv => ?_
  obtain ⟨rfl, hN30⟩ := hv
  replace hM := hM.call0 hN30
  refine va rfl rfl ?_
  refine nt hQ26 ?_
  clear hQ26 Q26
  refine KC.ret ?_
  refine KQ.thr hQ22 ?_
  clear hQ22 Q22
  have hE := Option.some.inj hF
  clear hF
  subst hE
  replace hM := hM.pick [] rfl (by decide)
  refine KQ.rets Try.results5 (RVs.cons (RV.tm rfl) RVs.nil) ?_
  exact ⟨_, rfl, rfl, hM⟩
 rw [if_neg (ne_true hc)] at hF
 refine KC.skip ?_
 refine KQ.thn hQ22 ?_
 clear hQ22 Q22
 refine sr fun Q31 hQ31 => ?_
 refine RL.val (O.loadN (cs := [v8 s1.f_Proto, v16 s1.f_Src, v16 s1.f_Dst, v32 s1.f_Seq, v32 s1.f_Ack, v8 s1.f_Flags, v16 s1.f_Window, v16 s1.f_Urgent, .slice A2 (s1.f_Options).length c3, v8 s1.f_Type, v8 s1.f_Code, .slice A5 (s1.f_Data).length c6]) ag26 rfl (Cs.addsN [] ((hM.bx (i := 0) rfl)) rfl)) rfl ?_
 refine vm rfl rfl ?_
 refine vm rfl rfl ?_
 refine obindE hF fun y32 hx33 hF => ?_
 refine RL.call Try.func11 bd11 rfl rfl (c_trans_Put _ s1 _ _ (hM.inp hr4 Off.nil) _ _ (hM.inp hr7 Off.nil) _ _ src8 (hM.inp hr11 Off.nil) _ _ dst12 (hM.inp hr15 Off.nil) _ hx33) fun v w34 hv => ?_
 obtain ⟨A36, c37, rfl, hN35⟩ := hv
 replace hM := hM.call hN35
 refine vm rfl rfl ?_
 refine RL.val (O.ext rfl rfl) rfl ?_
 refine RL.val (O.ext rfl rfl) rfl ?_
 refine va rfl rfl ?_
 refine va rfl rfl ?_
 refine nt hQ31 ?_
 clear hQ31 Q31
 refine KC.seqH fun Q39 hQ39 => ?_
 refine sr fun Q40 hQ40 => ?_
 refine vm rfl rfl ?_
 refine RL.val (O.neq rfl rfl) rfl ?_
 refine nt hQ40 ?_
 clear hQ40 Q40
 refine KC.cond rfl (fun hc => ?_) (fun hc => ?_)
 ·rw [if_pos hc] at hF
  refine KC.cut (fun a w46 => ∃ (t45 : Bool), Kn 140 [(10, vB t45)] a ∧ Mem w [] w46 [] ∧ F_law07_TransBack_j2 t45 = some r) ?_ ?_
  ·refine KC.region ?_
   refine vm rfl rfl ?_
   refine RL.val (O.len sl24 rfl) rfl ?_
   refine RL.val (O.eql rfl rfl) rfl ?_
   refine vm rfl rfl ?_
   refine RL.bcase (t := 50) rfl (fun hc => ?_) (fun hc => ?_)
   ·rw [if_pos hc] at hF
    refine obindE hF fun y41 hx42 hF => ?_
    refine RL.gcall rfl rfl Try.func8 bd8 rfl rfl (c_law07_works _ _ hx42) fun v w43 hv => ?_
    obtain ⟨rfl, hN44⟩ := hv
    replace hM := hM.call0 hN44
    refine RL.val (O.pickt rfl rfl) rfl ?_
    refine va rfl rfl ?_
    refine RL.nil ?_
    refine KQ.then_k ?_
    replace hM := hM.pick [] rfl (by decide)
    exact fun a ha => ⟨y41, ha.less (less_cons rfl less_nil), hM, hF⟩
   rw [if_neg (ne_true hc)] at hF
   refine RL.gskip rfl rfl rfl rfl ?_
   refine RL.val (O.pickf rfl rfl) rfl ?_
   refine va rfl rfl ?_
   refine RL.nil ?_
   refine KQ.then_k ?_
   replace hM := hM.pick [] rfl (by decide)
   exact fun a ha => ⟨false, ha.less (less_cons rfl less_nil), hM, hF⟩
  rintro a w46 ⟨t45, ha, hM, hF⟩
  refine KC.app ha ?_
  clear ha
  unfold F_law07_TransBack_j2 at hF
  refine KC.ret ?_
  refine KQ.thr hQ39 ?_
  clear hQ39 Q39
  have hE := Option.some.inj hF
  clear hF
  subst hE
  refine KQ.rets Try.results5 (RVs.cons (RV.tm rfl) RVs.nil) ?_
  exact ⟨_, rfl, rfl, hM⟩
 rw [if_neg (ne_true hc)] at hF
 refine KC.skip ?_
 refine KQ.thn hQ39 ?_
 clear hQ39 Q39
 refine sr fun Q47 hQ47 => ?_
 refine RL.val (O.fldA fl26_0 (by decide) rfl) rfl ?_
 refine RL.val (O.load sc5 rfl (Cs.adds [0] ((hM.bx (i := 0) rfl)) rfl)) rfl ?_
 refine vm rfl rfl ?_
 refine obindE hF fun y48 hx49 hF => ?_
 refine RL.call Try.func19 bd19 rfl rfl (c_trans_Parse _ s1.f_Proto _ _ y32.1 (hM.rd (i := 1) rfl) _ hx49) fun v w50 hv => ?_
 obtain ⟨A52, c53, A55, c56, rfl, hN51⟩ := hv
 replace hM := hM.call hN51
 refine vm rfl rfl ?_
 refine RL.val (O.ext rfl rfl) rfl ?_
 refine RL.val (O.ext rfl rfl) rfl ?_
 refine RL.eff (E.alloc hM ze26) rfl fun v w59 hv => ?_
 clear hM
 obtain ⟨g58, rfl, hM, hf⟩ := hv
 refine RL.effs (E.stB (j := 4) (off := 0) (vs := [v8 y48.1.f_Proto, v16 y48.1.f_Src, v16 y48.1.f_Dst, v32 y48.1.f_Seq, v32 y48.1.f_Ack, v8 y48.1.f_Flags, v16 y48.1.f_Window, v16 y48.1.f_Urgent, .slice A52 (y48.1.f_Options).length c53, v8 y48.1.f_Type, v8 y48.1.f_Code, .slice A55 (y48.1.f_Data).length c56]) (cs' := [v8 y48.1.f_Proto, v16 y48.1.f_Src, v16 y48.1.f_Dst, v32 y48.1.f_Seq, v32 y48.1.f_Ack, v8 y48.1.f_Flags, v16 y48.1.f_Window, v16 y48.1.f_Urgent, .slice A52 (y48.1.f_Options).length c53, v8 y48.1.f_Type, v8 y48.1.f_Code, .slice A55 (y48.1.f_Data).length c56]) hM rfl sz26 rfl (adds_eq [] rfl) rfl rfl (One.all rfl) rfl rfl) fun w61 hM1 => ?_
 clear hM
 have hM := hM1
 clear hM1
 refine va rfl rfl ?_
 refine nt hQ47 ?_
 clear hQ47 Q47
 refine KC.seqH fun Q62 hQ62 => ?_
 refine KC.cut (fun a w78 => ∃ (t77 : Bool), Kn 140 [(1, .slice A9 (src8).length c10), (2, .slice A13 (dst12).length c14), (3, vI atv16), (4, v8 byv17), (5, .pointer (some ⟨g19, 0, none⟩)), (11, .slice A36 (y32.1).length c37), (85, vB t77)] a ∧ Mem w [] w78 [.box g19 26 [v8 s1.f_Proto, v16 s1.f_Src, v16 s1.f_Dst, v32 s1.f_Seq, v32 s1.f_Ack, v8 s1.f_Flags, v16 s1.f_Window, v16 s1.f_Urgent, .slice A2 (s1.f_Options).length c3, v8 s1.f_Type, v8 s1.f_Code, .slice A5 (s1.f_Data).length c6], .row A36 c37 5 1 (y32.1).length ((y32.1).flatMap (eI .u8))] ∧ F_law07_TransBack_j3 s1 src8 dst12 atv16 byv17 y32 t77 = some r) ?_ ?_
 ·refine KC.region ?_
  refine vm rfl rfl ?_
  refine RL.val (O.neq rfl rfl) rfl ?_
  refine vm rfl rfl ?_
  refine RL.bcase (t := 62) rfl (fun hc => ?_) (fun hc => ?_)
  ·rw [if_pos hc] at hF
   refine RL.brun1 23 85 true (by kernel_rfl) ?_
   refine RL.nil ?_
   refine KQ.then_k ?_
   replace hM := hM.pick [0, 1] rfl (by decide)
   exact fun a ha => ⟨true, ha.less (less_cons rfl (less_cons rfl (less_cons rfl (less_cons rfl (less_cons rfl (less_cons rfl (less_cons rfl less_nil))))))), hM, hF⟩
  rw [if_neg (ne_true hc)] at hF
  refine RL.gval rfl rfl (O.loadN (cs := [v8 y48.1.f_Proto, v16 y48.1.f_Src, v16 y48.1.f_Dst, v32 y48.1.f_Seq, v32 y48.1.f_Ack, v8 y48.1.f_Flags, v16 y48.1.f_Window, v16 y48.1.f_Urgent, .slice A52 (y48.1.f_Options).length c53, v8 y48.1.f_Type, v8 y48.1.f_Code, .slice A55 (y48.1.f_Data).length c56]) ag26 rfl (Cs.addsN [] ((hM.bx (i := 4) rfl)) rfl)) rfl ?_
  refine RL.gval rfl rfl (O.loadN (cs := [v8 s1.f_Proto, v16 s1.f_Src, v16 s1.f_Dst, v32 s1.f_Seq, v32 s1.f_Ack, v8 s1.f_Flags, v16 s1.f_Window, v16 s1.f_Urgent, .slice A2 (s1.f_Options).length c3, v8 s1.f_Type, v8 s1.f_Code, .slice A5 (s1.f_Data).length c6]) ag26 rfl (Cs.addsN [] ((hM.bx (i := 0) rfl)) rfl)) rfl ?_
  refine obindE hF fun y63 hx64 hF => ?_
  refine RL.gcall rfl rfl Try.func15 bd15 rfl rfl (c_trans_Same _ y48.1 _ _ (hM.rd (i := 2) rfl) _ _ (hM.rd (i := 3) rfl) s1 _ _ (hM.inp hr4 Off.nil) _ _ (hM.inp hr7 Off.nil) _ hx64) fun v w65 hv => ?_
  obtain ⟨rfl, hN66⟩ := hv
  replace hM := hM.call0 hN66
  refine RL.gval rfl rfl (O.not rfl) rfl ?_
  refine RL.val (O.pickf rfl rfl) rfl ?_
  refine vm rfl rfl ?_
  refine RL.bcase (t := 68) rfl (fun hc => ?_) (fun hc => ?_)
  ·rw [if_pos hc] at hF
   refine RL.brun1 17 85 true (by kernel_rfl) ?_
   refine RL.nil ?_
   refine KQ.then_k ?_
   replace hM := hM.pick [0, 1] rfl (by decide)
   exact fun a ha => ⟨true, ha.less (less_cons rfl (less_cons rfl (less_cons rfl (less_cons rfl (less_cons rfl (less_cons rfl (less_cons rfl less_nil))))))), hM, hF⟩
  rw [if_neg (ne_true hc)] at hF
  refine RL.gval rfl rfl (O.fldA fl26_0 (by decide) rfl) rfl ?_
  refine RL.gval rfl rfl (O.load sc5 rfl (Cs.adds [0] ((hM.bx (i := 0) rfl)) rfl)) rfl ?_
  refine RL.gval rfl rfl (O.move rfl) rfl ?_
  refine RL.gval rfl rfl (O.move rfl) rfl ?_
  refine RL.gval rfl rfl (O.move rfl) rfl ?_
  refine obindE hF fun y67 hx68 hF => ?_
  refine RL.gcall rfl rfl Try.func20 bd20 rfl rfl (c_trans_Sound _ s1.f_Proto _ _ y32.1 (hM.rd (i := 1) rfl) _ _ src8 (hM.inp hr11 Off.nil) _ _ dst12 (hM.inp hr15 Off.nil) _ hx68) fun v w69 hv => ?_
  obtain ⟨rfl, hN70⟩ := hv
  replace hM := hM.call0 hN70
  refine RL.gval rfl rfl (O.not rfl) rfl ?_
  refine RL.val (O.pickf rfl rfl) rfl ?_
  refine vm rfl rfl ?_
  refine RL.bcase (t := 77) rfl (fun hc => ?_) (fun hc => ?_)
  ·rw [if_pos hc] at hF
   refine RL.brun1 8 85 true (by kernel_rfl) ?_
   refine RL.nil ?_
   refine KQ.then_k ?_
   replace hM := hM.pick [0, 1] rfl (by decide)
   exact fun a ha => ⟨true, ha.less (less_cons rfl (less_cons rfl (less_cons rfl (less_cons rfl (less_cons rfl (less_cons rfl (less_cons rfl less_nil))))))), hM, hF⟩
  rw [if_neg (ne_true hc)] at hF
  refine RL.gval rfl rfl (O.fldA fl26_0 (by decide) rfl) rfl ?_
  refine RL.gval rfl rfl (O.load sc5 rfl (Cs.adds [0] ((hM.bx (i := 0) rfl)) rfl)) rfl ?_
  refine RL.gval rfl rfl (O.move rfl) rfl ?_
  refine RL.gval rfl rfl (O.move rfl) rfl ?_
  refine RL.gval rfl rfl (O.move rfl) rfl ?_
  refine obindE hF fun y71 hx72 hF => ?_
  refine RL.gcall rfl rfl Try.func20 bd20 rfl rfl (c_trans_Sound _ s1.f_Proto _ _ y32.1 (hM.rd (i := 1) rfl) _ _ dst12 (hM.inp hr15 Off.nil) _ _ src8 (hM.inp hr11 Off.nil) _ hx72) fun v w73 hv => ?_
  obtain ⟨rfl, hN74⟩ := hv
  replace hM := hM.call0 hN74
  refine RL.gval rfl rfl (O.not rfl) rfl ?_
  refine RL.val (O.pickf rfl rfl) rfl ?_
  refine RL.nil ?_
  refine KQ.then_k ?_
  replace hM := hM.pick [0, 1] rfl (by decide)
  exact fun a ha => ⟨(!y71), ha.less (less_cons rfl (less_cons rfl (less_cons rfl (less_cons rfl (less_cons rfl (less_cons rfl (less_cons rfl less_nil))))))), hM, hF⟩
 rintro a w78 ⟨t77, ha, hM, hF⟩
 refine KC.app ha ?_
 clear ha
 unfold F_law07_TransBack_j3 at hF
 refine KC.cond rfl (fun hc => ?_) (fun hc => ?_)
 ·rw [if_pos hc] at hF
  refine sr fun Q79 hQ79 => ?_
  refine va rfl rfl ?_
  refine nt hQ79 ?_
  clear hQ79 Q79
  refine KC.ret ?_
  refine KQ.thr hQ62 ?_
  clear hQ62 Q62
  have hE := Option.some.inj hF
  clear hF
  subst hE
  replace hM := hM.pick [] rfl (by decide)
  refine KQ.rets Try.results5 (RVs.cons (RV.tm rfl) RVs.nil) ?_
  exact ⟨_, rfl, rfl, hM⟩
 rw [if_neg (ne_true hc)] at hF
 refine KC.skip ?_
 refine KQ.thn hQ62 ?_
 clear hQ62 Q62
 refine sr fun Q80 hQ80 => ?_
 refine vm rfl rfl ?_
 refine obindE hF fun y81 hx82 hF => ?_
 refine RL.call Try.func22 bd22 rfl rfl (c_ref01_Join _ none 0 [] Rd.nilr _ _ y32.1 (hM.rd (i := 1) rfl) _ hx82) fun v w83 hv => ?_
 obtain ⟨A85, c86, rfl, hN84⟩ := hv
 replace hM := hM.call hN84
 refine va rfl rfl ?_
 refine nt hQ80 ?_
 clear hQ80 Q80
 refine sr fun Q88 hQ88 => ?_
 refine vm rfl rfl ?_
 refine vm rfl rfl ?_
 refine RL.val (O.len sl24 rfl) rfl ?_
 refine RL.val (O.max2 rfl rfl) rfl ?_
 refine obindE hF fun y89 hx90 hF => ?_
 refine RL.call Try.func23 bd23 rfl rfl (c_kit_Pick _ atv16 (gmax 1 (y81.length : Int)) _ hx90) fun v w91 hv => ?_
 obtain ⟨rfl, hN92⟩ := hv
 replace hM := hM.call0 hN92
 refine va rfl rfl ?_
 refine nt hQ88 ?_
 clear hQ88 Q88
 refine sr fun Q93 hQ93 => ?_
 refine vm rfl rfl ?_
 refine vm rfl rfl ?_
 refine vm rfl rfl ?_
 refine vm rfl rfl ?_
 refine obindE hF fun xv96 hx95 hF => ?_
 have hA94 := Rd.atN (f := (eI .u8)) (s := 1) (fun _ => rfl) (by decide) (hM.rd (i := 2) rfl) hx95
 refine RL.val (O.idxA sl24 (hA94) rfl rfl) rfl ?_
 refine RL.val (O.load sc5 rfl (hA94).cells.at0) rfl ?_
 refine vm rfl rfl ?_
 refine RL.val (O.add rfl rfl) rfl ?_
 refine obindE hF fun xv99 hx98 hF => ?_
 have hA97 := Rd.atN (f := (eI .u8)) (s := 1) (fun _ => rfl) (by decide) (hM.rd (i := 2) rfl) hx98
 refine RL.val (O.idxA sl24 (hA97) rfl rfl) rfl ?_
 refine RL.effs (E.stR (enc := (eI .u8)) (j := 2) (off := 0) (vs := [v8 (IntKind.u8.wrap (xv96 + byv17))]) (x' := (IntKind.u8.wrap (xv96 + byv17))) hM rfl (fun _ => rfl) hx98 sz5 rfl (addsR_eq [] rfl) rfl rfl (One.all rfl) rfl rfl) fun w100 hM1 => ?_
 clear hM
 obtain ⟨hM, hn101⟩ := hM1
 refine RL.reslot (t := 15) rfl hn101 ?_
 refine RL.reslot (t := 93) rfl hn101 ?_
 refine RL.reslot (t := 95) rfl hn101 ?_
 refine nt hQ93 ?_
 clear hQ93 Q93
 refine KC.cut (fun a w111 => ∃ (none110 : Bool), Kn 140 [(1, .slice A9 (src8).length c10), (2, .slice A13 (dst12).length c14), (3, vI y89), (4, v8 byv17), (5, .pointer (some ⟨g19, 0, none⟩)), (15, .slice A85 ((y81.set (y89 : Int).toNat (IntKind.u8.wrap (xv96 + byv17)))).length c86), (16, vB none110)] a ∧ Mem w [] w111 [.box g19 26 [v8 s1.f_Proto, v16 s1.f_Src, v16 s1.f_Dst, v32 s1.f_Seq, v32 s1.f_Ack, v8 s1.f_Flags, v16 s1.f_Window, v16 s1.f_Urgent, .slice A2 (s1.f_Options).length c3, v8 s1.f_Type, v8 s1.f_Code, .slice A5 (s1.f_Data).length c6], .row A85 c86 5 1 ((y81.set (y89 : Int).toNat (IntKind.u8.wrap (xv96 + byv17)))).length (((y81.set (y89 : Int).toNat (IntKind.u8.wrap (xv96 + byv17)))).flatMap (eI .u8))] ∧ F_law07_TransBack_j4 s1 src8 dst12 byv17 y81 y89 xv96 none110 = some r) ?_ ?_
 ·refine KC.region ?_
  refine RL.val (O.fldA fl26_0 (by decide) rfl) rfl ?_
  refine RL.val (O.load sc5 rfl (Cs.adds [0] ((hM.bx (i := 0) rfl)) rfl)) rfl ?_
  refine RL.val (O.eql rfl rfl) rfl ?_
  refine vm rfl rfl ?_
  refine RL.bcase (t := 105) rfl (fun hc => ?_) (fun hc => ?_)
  ·rw [if_pos hc] at hF
   refine RL.gval rfl rfl (O.move rfl) rfl ?_
   refine obindE hF fun xv104 hx103 hF => ?_
   have hA102 := Rd.atN (f := (eI .u8)) (s := 1) (fun _ => rfl) (by decide) (hM.rd (i := 2) rfl) hx103
   refine RL.gval rfl rfl (O.idxA sl24 (hA102) rfl rfl) rfl ?_
   refine RL.gval rfl rfl (O.load sc5 rfl (hA102).cells.at0) rfl ?_
   refine RL.gval rfl rfl (O.eql rfl rfl) rfl ?_
   refine RL.val (O.pickt rfl rfl) rfl ?_
   refine vm rfl rfl ?_
   refine RL.bcase (t := 111) rfl (fun hc => ?_) (fun hc => ?_)
   ·rw [if_pos hc] at hF
    refine RL.gval rfl rfl (O.move rfl) rfl ?_
    refine obindE hF fun xv107 hx106 hF => ?_
    have hA105 := Rd.atN (f := (eI .u8)) (s := 1) (fun _ => rfl) (by decide) (hM.rd (i := 2) rfl) hx106
    refine RL.gval rfl rfl (O.idxA sl24 (hA105) rfl rfl) rfl ?_
    refine RL.gval rfl rfl (O.load sc5 rfl (hA105).cells.at0) rfl ?_
    refine RL.gval rfl rfl (O.eql rfl rfl) rfl ?_
    refine RL.val (O.pickt rfl rfl) rfl ?_
    refine va rfl rfl ?_
    refine RL.nil ?_
    refine KQ.then_k ?_
    replace hM := hM.pick [0, 2] rfl (by decide)
    exact fun a ha => ⟨(xv107 == 0), ha.less (less_cons rfl (less_cons rfl (less_cons rfl (less_cons rfl (less_cons rfl (less_cons rfl (less_cons rfl less_nil))))))), hM, hF⟩
   rw [if_neg (ne_true hc)] at hF
   refine RL.brun1 5 116 false (by kernel_rfl) ?_
   refine va rfl rfl ?_
   refine RL.nil ?_
   refine KQ.then_k ?_
   replace hM := hM.pick [0, 2] rfl (by decide)
   exact fun a ha => ⟨false, ha.less (less_cons rfl (less_cons rfl (less_cons rfl (less_cons rfl (less_cons rfl (less_cons rfl (less_cons rfl less_nil))))))), hM, hF⟩
  rw [if_neg (ne_true hc)] at hF
  refine RL.brun1 11 116 false (by kernel_rfl) ?_
  refine va rfl rfl ?_
  refine RL.nil ?_
  refine KQ.then_k ?_
  replace hM := hM.pick [0, 2] rfl (by decide)
  exact fun a ha => ⟨false, ha.less (less_cons rfl (less_cons rfl (less_cons rfl (less_cons rfl (less_cons rfl (less_cons rfl (less_cons rfl less_nil))))))), hM, hF⟩
 rintro a w111 ⟨none110, ha, hM, hF⟩
 refine KC.app ha ?_
 clear ha
 unfold F_law07_TransBack_j4 at hF
 refine KC.seqH fun Q112 hQ112 => ?_
 refine KC.cut (fun a w122 => ∃ (t121 : Bool), Kn 140 [(138, vB t121)] a ∧ Mem w [] w122 [] ∧ F_law07_TransBack_j5 t121 = some r) ?_ ?_
 ·refine KC.region ?_
  refine vm rfl rfl ?_
  refine RL.val (O.gtr rfl rfl) rfl ?_
  refine vm rfl rfl ?_
  refine RL.bcase (t := 119) rfl (fun hc => ?_) (fun hc => ?_)
  ·rw [if_pos hc] at hF
   refine RL.gval rfl rfl (O.move rfl) rfl ?_
   refine RL.gval rfl rfl (O.not rfl) rfl ?_
   refine RL.val (O.pickt rfl rfl) rfl ?_
   refine vm rfl rfl ?_
   refine RL.bcase (t := 123) rfl (fun hc => ?_) (fun hc => ?_)
   ·rw [if_pos hc] at hF
    refine RL.gval rfl rfl (O.fldA fl26_0 (by decide) rfl) rfl ?_
    refine RL.gval rfl rfl (O.load sc5 rfl (Cs.adds [0] ((hM.bx (i := 0) rfl)) rfl)) rfl ?_
    refine RL.gval rfl rfl (O.move rfl) rfl ?_
    refine RL.gval rfl rfl (O.move rfl) rfl ?_
    refine RL.gval rfl rfl (O.move rfl) rfl ?_
    refine obindE hF fun y113 hx114 hF => ?_
    refine RL.gcall rfl rfl Try.func20 bd20 rfl rfl (c_trans_Sound _ s1.f_Proto _ _ (y81.set (y89 : Int).toNat (IntKind.u8.wrap (xv96 + byv17))) (hM.rd (i := 1) rfl) _ _ src8 (hM.inp hr11 Off.nil) _ _ dst12 (hM.inp hr15 Off.nil) _ hx114) fun v w115 hv => ?_
    obtain ⟨rfl, hN116⟩ := hv
    replace hM := hM.call0 hN116
    refine RL.val (O.pickt rfl rfl) rfl ?_
    refine vm rfl rfl ?_
    refine RL.bcase (t := 131) rfl (fun hc => ?_) (fun hc => ?_)
    ·rw [if_pos hc] at hF
     refine RL.gval rfl rfl (O.fldA fl26_0 (by decide) rfl) rfl ?_
     refine RL.gval rfl rfl (O.load sc5 rfl (Cs.adds [0] ((hM.bx (i := 0) rfl)) rfl)) rfl ?_
     refine RL.gval rfl rfl (O.move rfl) rfl ?_
     refine RL.gval rfl rfl (O.move rfl) rfl ?_
     refine obindE hF fun y117 hx118 hF => ?_
     refine RL.gcall rfl rfl Try.func24 bd24 rfl rfl (c_law07_shorter _ s1.f_Proto _ _ (y81.set (y89 : Int).toNat (IntKind.u8.wrap (xv96 + byv17))) (hM.rd (i := 1) rfl) y89 _ hx118) fun v w119 hv => ?_
     obtain ⟨rfl, hN120⟩ := hv
     replace hM := hM.call0 hN120
     refine RL.gval rfl rfl (O.not rfl) rfl ?_
     refine RL.val (O.pickt rfl rfl) rfl ?_
     refine RL.nil ?_
     refine KQ.then_k ?_
     replace hM := hM.pick [] rfl (by decide)
     exact fun a ha => ⟨(!y117), ha.less (less_cons rfl less_nil), hM, hF⟩
    rw [if_neg (ne_true hc)] at hF
    refine RL.brun1 7 138 false (by kernel_rfl) ?_
    refine RL.nil ?_
    refine KQ.then_k ?_
    replace hM := hM.pick [] rfl (by decide)
    exact fun a ha => ⟨false, ha.less (less_cons rfl less_nil), hM, hF⟩
   rw [if_neg (ne_true hc)] at hF
   refine RL.brun1 15 138 false (by kernel_rfl) ?_
   refine RL.nil ?_
   refine KQ.then_k ?_
   replace hM := hM.pick [] rfl (by decide)
   exact fun a ha => ⟨false, ha.less (less_cons rfl less_nil), hM, hF⟩
  rw [if_neg (ne_true hc)] at hF
  refine RL.brun1 19 138 false (by kernel_rfl) ?_
  refine RL.nil ?_
  refine KQ.then_k ?_
  replace hM := hM.pick [] rfl (by decide)
  exact fun a ha => ⟨false, ha.less (less_cons rfl less_nil), hM, hF⟩
 rintro a w122 ⟨t121, ha, hM, hF⟩
 refine KC.app ha ?_
 clear ha
 unfold F_law07_TransBack_j5 at hF
 refine KC.cond rfl (fun hc => ?_) (fun hc => ?_)
 ·rw [if_pos hc] at hF
  refine sr fun Q123 hQ123 => ?_
  refine va rfl rfl ?_
  refine nt hQ123 ?_
  clear hQ123 Q123
  refine KC.ret ?_
  refine KQ.thr hQ112 ?_
  clear hQ112 Q112
  have hE := Option.some.inj hF
  clear hF
  subst hE
  refine KQ.rets Try.results5 (RVs.cons (RV.tm rfl) RVs.nil) ?_
  exact ⟨_, rfl, rfl, hM⟩
 rw [if_neg (ne_true hc)] at hF
 refine KC.skip ?_
 refine KQ.thn hQ112 ?_
 clear hQ112 Q112
 refine sr fun Q124 hQ124 => ?_
 refine obindE hF fun y125 hx126 hF => ?_
 refine RL.call Try.func8 bd8 rfl rfl (c_law07_works _ _ hx126) fun v w127 hv => ?_
 obtain ⟨rfl, hN128⟩ := hv
 replace hM := hM.call0 hN128
 refine va rfl rfl ?_
 refine nt hQ124 ?_
 clear hQ124 Q124
 refine KC.ret ?_
 have hE := Option.some.inj hF
 clear hF
 subst hE
 refine KQ.rets Try.results5 (RVs.cons (RV.tm rfl) RVs.nil) ?_
 exact ⟨_, rfl, rfl, hM⟩
end Go.Proofs.Ytcinagdkkclapaa
