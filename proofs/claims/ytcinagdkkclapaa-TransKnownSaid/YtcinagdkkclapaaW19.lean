/- Printed by a program of this claim: each call returns what the plain function of its name gives. -/
import Derived.Test.YtcinagdkkclapaaW1
import Derived.Test.YtcinagdkkclapaaW11
import Derived.Test.YtcinagdkkclapaaW12
import Derived.Test.YtcinagdkkclapaaW13
import Derived.Test.YtcinagdkkclapaaW17
set_option linter.unusedVariables false
namespace Go.Proofs.Ytcinagdkkclapaa
open Go Go.Ox Go.RowKit
set_option maxRecDepth 100000 in
set_option maxHeartbeats 40000000 in
theorem c_ref03_Whole (w : World) (A2 : Option Addr) (c3 : Nat) (b1 : List Int) (hr4 : Rd w A2 c3 1 b1.length (b1.flatMap (eI .u8))) (r : Bool) (hF : F_ref03_Whole b1 = some r) :
  CallsR Try.prog 41 [.slice A2 (b1).length c3] w (fun v w' => v = vB r ∧ Mem w [] w' []) := by
 refine calls_KC Try.func41 rfl Try.ntmps41 rfl ?_
 have hM := Mem.init w
 unfold F_ref03_Whole at hF
 refine sr fun Q5 hQ5 => ?_
 refine va rfl rfl ?_
 refine nt hQ5 ?_
 clear hQ5 Q5
 refine KC.cut (fun a w15 => ∃ (t14 : Bool), Kn 11 [(2, vB t14)] a ∧ Mem w [] w15 [] ∧ F_ref03_Whole_j1 t14 = some r) ?_ ?_
 ·refine KC.region ?_
  refine vm rfl rfl ?_
  refine obindE hF fun y6 hx7 hF => ?_
  refine RL.call Try.func45 bd45 rfl rfl (c_ref03_Sum _ _ _ b1 (hM.inp hr4 Off.nil) _ hx7) fun v w8 hv => ?_
  obtain ⟨rfl, hN9⟩ := hv
  replace hM := hM.call0 hN9
  refine RL.val (O.eql rfl rfl) rfl ?_
  refine vm rfl rfl ?_
  refine RL.bcase (t := 6) rfl (fun hc => ?_) (fun hc => ?_)
  ·rw [if_pos hc] at hF
   refine RL.brun1 4 10 true (by kernel_rfl) ?_
   refine va rfl rfl ?_
   refine RL.nil ?_
   refine KQ.then_k ?_
   exact fun a ha => ⟨true, ha.less (less_cons rfl less_nil), hM, hF⟩
  rw [if_neg (ne_true hc)] at hF
  refine RL.gval rfl rfl (O.move rfl) rfl ?_
  refine obindE hF fun y10 hx11 hF => ?_
  refine RL.gcall rfl rfl Try.func45 bd45 rfl rfl (c_ref03_Sum _ _ _ b1 (hM.inp hr4 Off.nil) _ hx11) fun v w12 hv => ?_
  obtain ⟨rfl, hN13⟩ := hv
  replace hM := hM.call0 hN13
  refine RL.gval rfl rfl (O.eql rfl rfl) rfl ?_
  refine RL.val (O.pickf rfl rfl) rfl ?_
  refine va rfl rfl ?_
  refine RL.nil ?_
  refine KQ.then_k ?_
  exact fun a ha => ⟨(y10 == 0), ha.less (less_cons rfl less_nil), hM, hF⟩
 rintro a w15 ⟨t14, ha, hM, hF⟩
 refine KC.app ha ?_
 clear ha
 unfold F_ref03_Whole_j1 at hF
 refine KC.ret ?_
 have hE := Option.some.inj hF
 clear hF
 subst hE
 refine KQ.rets Try.results41 (RVs.cons (RV.tm rfl) RVs.nil) ?_
 exact ⟨_, rfl, rfl, hM⟩
set_option maxRecDepth 100000 in
set_option maxHeartbeats 40000000 in
theorem c_ref07_Sound (w : World) (proto1 : Int) (b2 : ByteArray) (src3 : ByteArray) (dst4 : ByteArray) (r : Bool) (hF : F_ref07_Sound proto1 b2 src3 dst4 = some r) :
  CallsR Try.prog 21 [v8 proto1, Value.string b2, Value.string src3, Value.string dst4] w (fun v w' => v = vB r ∧ Mem w [] w' []) := by
 refine calls_KC Try.func21 rfl Try.ntmps21 rfl ?_
 have hM := Mem.init w
 unfold F_ref07_Sound at hF
 refine sr fun Q5 hQ5 => ?_
 refine va rfl rfl ?_
 refine nt hQ5 ?_
 clear hQ5 Q5
 refine sr fun Q6 hQ6 => ?_
 refine vm rfl rfl ?_
 refine vm rfl rfl ?_
 refine obindE hF fun y7 hx8 hF => ?_
 refine RL.call Try.func18 bd18 rfl rfl (c_ref07_Parse _ proto1 b2 _ hx8) fun v w9 hv => ?_
 obtain ⟨rfl, hN10⟩ := hv
 replace hM := hM.call0 hN10
 refine vm rfl rfl ?_
 refine RL.val (O.ext rfl rfl) rfl ?_
 refine RL.val (O.ext rfl rfl) rfl ?_
 refine RL.eff (E.alloc hM ze30) rfl fun v w12 hv => ?_
 clear hM
 obtain ⟨g11, rfl, hM, hf⟩ := hv
 refine RL.effs (E.stB (j := 0) (off := 0) (vs := [v8 y7.1.f_Proto, v16 y7.1.f_Src, v16 y7.1.f_Dst, v32 y7.1.f_Seq, v32 y7.1.f_Ack, v8 y7.1.f_Flags, v16 y7.1.f_Window, v16 y7.1.f_Urgent, Value.string y7.1.f_Options, v8 y7.1.f_Type, v8 y7.1.f_Code, Value.string y7.1.f_Data]) (cs' := [v8 y7.1.f_Proto, v16 y7.1.f_Src, v16 y7.1.f_Dst, v32 y7.1.f_Seq, v32 y7.1.f_Ack, v8 y7.1.f_Flags, v16 y7.1.f_Window, v16 y7.1.f_Urgent, Value.string y7.1.f_Options, v8 y7.1.f_Type, v8 y7.1.f_Code, Value.string y7.1.f_Data]) hM rfl sz30 rfl (adds_eq [] rfl) rfl rfl (One.all rfl) rfl rfl) fun w14 hM1 => ?_
 clear hM
 have hM := hM1
 clear hM1
 refine va rfl rfl ?_
 refine nt hQ6 ?_
 clear hQ6 Q6
 refine KC.seqH fun Q15 hQ15 => ?_
 refine sr fun Q16 hQ16 => ?_
 refine vm rfl rfl ?_
 refine RL.val (O.neq rfl rfl) rfl ?_
 refine nt hQ16 ?_
 clear hQ16 Q16
 refine KC.cond rfl (fun hc => ?_) (fun hc => ?_)
 ·rw [if_pos hc] at hF
  refine sr fun Q17 hQ17 => ?_
  refine va rfl rfl ?_
  refine nt hQ17 ?_
  clear hQ17 Q17
  refine KC.ret ?_
  refine KQ.thr hQ15 ?_
  clear hQ15 Q15
  have hE := Option.some.inj hF
  clear hF
  subst hE
  replace hM := hM.pick [] rfl (by decide)
  refine KQ.rets Try.results21 (RVs.cons (RV.tm rfl) RVs.nil) ?_
  exact ⟨_, rfl, rfl, hM⟩
 rw [if_neg (ne_true hc)] at hF
 refine KC.skip ?_
 refine KQ.thn hQ15 ?_
 clear hQ15 Q15
 refine sr fun Q18 hQ18 => ?_
 refine vm rfl rfl ?_
 refine RL.val (O.loadN (cs := [v8 y7.1.f_Proto, v16 y7.1.f_Src, v16 y7.1.f_Dst, v32 y7.1.f_Seq, v32 y7.1.f_Ack, v8 y7.1.f_Flags, v16 y7.1.f_Window, v16 y7.1.f_Urgent, Value.string y7.1.f_Options, v8 y7.1.f_Type, v8 y7.1.f_Code, Value.string y7.1.f_Data]) ag30 rfl (Cs.addsN [] ((hM.bx (i := 0) rfl)) rfl)) rfl ?_
 refine obindE hF fun y19 hx20 hF => ?_
 refine RL.call Try.func27 bd27 rfl rfl (c_ref07_Length _ y7.1 _ hx20) fun v w21 hv => ?_
 obtain ⟨rfl, hN22⟩ := hv
 replace hM := hM.call0 hN22
 refine obindE hF fun cut23 hy24 hF => ?_
 refine RL.val (O.cutSh Try.underlying9 hy24 rfl rfl) rfl ?_
 refine va rfl rfl ?_
 refine nt hQ18 ?_
 clear hQ18 Q18
 refine sr fun Q25 hQ25 => ?_
 refine vm rfl rfl ?_
 refine vm rfl rfl ?_
 refine RL.val (O.lens Try.underlying9 rfl) rfl ?_
 refine vm rfl rfl ?_
 refine vm rfl rfl ?_
 refine obindE hF fun y26 hx27 hF => ?_
 refine RL.call Try.func26 bd26 rfl rfl (c_ref07_pseudo _ proto1 (cut23.size : Int) src3 dst4 _ hx27) fun v w28 hv => ?_
 obtain ⟨rfl, hN29⟩ := hv
 replace hM := hM.call0 hN29
 refine vm rfl rfl ?_
 refine RL.val (O.ext rfl rfl) rfl ?_
 refine RL.val (O.ext rfl rfl) rfl ?_
 refine va rfl rfl ?_
 refine va rfl rfl ?_
 refine nt hQ25 ?_
 clear hQ25 Q25
 refine KC.seqH fun Q30 hQ30 => ?_
 refine sr fun Q31 hQ31 => ?_
 refine vm rfl rfl ?_
 refine RL.val (O.not rfl) rfl ?_
 refine nt hQ31 ?_
 clear hQ31 Q31
 refine KC.cond rfl (fun hc => ?_) (fun hc => ?_)
 ·rw [if_pos hc] at hF
  refine sr fun Q32 hQ32 => ?_
  refine va rfl rfl ?_
  refine nt hQ32 ?_
  clear hQ32 Q32
  refine KC.ret ?_
  refine KQ.thr hQ30 ?_
  clear hQ30 Q30
  have hE := Option.some.inj hF
  clear hF
  subst hE
  replace hM := hM.pick [] rfl (by decide)
  refine KQ.rets Try.results21 (RVs.cons (RV.tm rfl) RVs.nil) ?_
  exact ⟨_, rfl, rfl, hM⟩
 rw [if_neg (ne_true hc)] at hF
 refine KC.skip ?_
 refine KQ.thn hQ30 ?_
 clear hQ30 Q30
 refine KC.seqH fun Q33 hQ33 => ?_
 refine KC.cut (fun a w39 => ∃ (t38 : Bool), Kn 58 [(1, Value.string cut23), (11, Value.string y26.1), (52, vB t38)] a ∧ Mem w [] w39 [] ∧ F_ref07_Sound_j1 cut23 y26 t38 = some r) ?_ ?_
 ·refine KC.region ?_
  refine vm rfl rfl ?_
  refine RL.val (O.eql rfl rfl) rfl ?_
  refine vm rfl rfl ?_
  refine RL.bcase (t := 38) rfl (fun hc => ?_) (fun hc => ?_)
  ·rw [if_pos hc] at hF
   refine RL.gval rfl rfl (O.move rfl) rfl ?_
   refine RL.gval rfl rfl (O.lens Try.underlying9 rfl) rfl ?_
   refine RL.gval rfl rfl (O.eql rfl rfl) rfl ?_
   refine RL.val (O.pickt rfl rfl) rfl ?_
   refine vm rfl rfl ?_
   refine RL.bcase (t := 43) rfl (fun hc => ?_) (fun hc => ?_)
   ·rw [if_pos hc] at hF
    refine RL.gval rfl rfl (O.move rfl) rfl ?_
    refine obindE hF fun xv34 hx35 hF => ?_
    refine RL.gval rfl rfl (O.idxS Try.underlying9 hx35 rfl rfl) rfl ?_
    refine RL.gval rfl rfl (O.eql rfl rfl) rfl ?_
    refine RL.val (O.pickt rfl rfl) rfl ?_
    refine vm rfl rfl ?_
    refine RL.bcase (t := 48) rfl (fun hc => ?_) (fun hc => ?_)
    ·rw [if_pos hc] at hF
     refine RL.gval rfl rfl (O.move rfl) rfl ?_
     refine obindE hF fun xv36 hx37 hF => ?_
     refine RL.gval rfl rfl (O.idxS Try.underlying9 hx37 rfl rfl) rfl ?_
     refine RL.gval rfl rfl (O.eql rfl rfl) rfl ?_
     refine RL.val (O.pickt rfl rfl) rfl ?_
     refine RL.nil ?_
     refine KQ.then_k ?_
     replace hM := hM.pick [] rfl (by decide)
     exact fun a ha => ⟨(xv36 == 0), ha.less (less_cons rfl (less_cons rfl (less_cons rfl less_nil))), hM, hF⟩
    rw [if_neg (ne_true hc)] at hF
    refine RL.brun1 4 52 false (by kernel_rfl) ?_
    refine RL.nil ?_
    refine KQ.then_k ?_
    replace hM := hM.pick [] rfl (by decide)
    exact fun a ha => ⟨false, ha.less (less_cons rfl (less_cons rfl (less_cons rfl less_nil))), hM, hF⟩
   rw [if_neg (ne_true hc)] at hF
   refine RL.brun1 9 52 false (by kernel_rfl) ?_
   refine RL.nil ?_
   refine KQ.then_k ?_
   replace hM := hM.pick [] rfl (by decide)
   exact fun a ha => ⟨false, ha.less (less_cons rfl (less_cons rfl (less_cons rfl less_nil))), hM, hF⟩
  rw [if_neg (ne_true hc)] at hF
  refine RL.brun1 14 52 false (by kernel_rfl) ?_
  refine RL.nil ?_
  refine KQ.then_k ?_
  replace hM := hM.pick [] rfl (by decide)
  exact fun a ha => ⟨false, ha.less (less_cons rfl (less_cons rfl (less_cons rfl less_nil))), hM, hF⟩
 rintro a w39 ⟨t38, ha, hM, hF⟩
 refine KC.app ha ?_
 clear ha
 unfold F_ref07_Sound_j1 at hF
 refine KC.cond rfl (fun hc => ?_) (fun hc => ?_)
 ·rw [if_pos hc] at hF
  refine sr fun Q40 hQ40 => ?_
  refine va rfl rfl ?_
  refine nt hQ40 ?_
  clear hQ40 Q40
  refine KC.ret ?_
  refine KQ.thr hQ33 ?_
  clear hQ33 Q33
  have hE := Option.some.inj hF
  clear hF
  subst hE
  refine KQ.rets Try.results21 (RVs.cons (RV.tm rfl) RVs.nil) ?_
  exact ⟨_, rfl, rfl, hM⟩
 rw [if_neg (ne_true hc)] at hF
 refine KC.skip ?_
 refine KQ.thn hQ33 ?_
 clear hQ33 Q33
 refine sr fun Q41 hQ41 => ?_
 refine vm rfl rfl ?_
 refine vm rfl rfl ?_
 refine cut_someE hF fun hq42 hF => ?_
 refine RL.val (O.addS (of_decide_eq_true hq42) rfl rfl) rfl ?_
 refine cut_someE hF fun hq46 hF => ?_
 refine RL.eff (E.s2b hM Try.underlying9 sl24 Try.underlying5 rfl (of_decide_eq_true hq46)) rfl fun v w45 hv => ?_
 clear hM
 obtain ⟨A43, c44, Z47, rfl, hM, hf⟩ := hv
 refine obindE hF fun y49 hx50 hF => ?_
 refine RL.call Try.func41 bd41 rfl rfl (c_ref03_Whole _ _ _ (numsOfStr (y26.1 ++ cut23)) (hM.rdP (i := 0) rfl) _ hx50) fun v w51 hv => ?_
 obtain ⟨rfl, hN52⟩ := hv
 replace hM := hM.call0 hN52
 refine va rfl rfl ?_
 refine nt hQ41 ?_
 clear hQ41 Q41
 refine KC.ret ?_
 have hE := Option.some.inj hF
 clear hF
 subst hE
 replace hM := hM.pick [] rfl (by decide)
 refine KQ.rets Try.results21 (RVs.cons (RV.tm rfl) RVs.nil) ?_
 exact ⟨_, rfl, rfl, hM⟩
end Go.Proofs.Ytcinagdkkclapaa
