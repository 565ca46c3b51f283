/- Printed by a program of this claim: each call returns what the plain function of its name gives. -/
import Derived.Test.YtcinagdkkclapaaW1
import Derived.Test.YtcinagdkkclapaaW10
import Derived.Test.YtcinagdkkclapaaW11
import Derived.Test.YtcinagdkkclapaaW17
import Derived.Test.YtcinagdkkclapaaW18
import Derived.Test.YtcinagdkkclapaaW19
set_option linter.unusedVariables false
namespace Go.Proofs.Ytcinagdkkclapaa
open Go Go.Ox Go.RowKit
set_option maxRecDepth 100000 in
set_option maxHeartbeats 40000000 in
theorem c_law07_TransParses (w : World) (proto1 : Int) (A3 : Option Addr) (c4 : Nat) (b2 : List Int) (hr5 : Rd w A3 c4 1 b2.length (b2.flatMap (eI .u8))) (A7 : Option Addr) (c8 : Nat) (src6 : List Int) (hr9 : Rd w A7 c8 1 src6.length (src6.flatMap (eI .u8))) (A11 : Option Addr) (c12 : Nat) (dst10 : List Int) (hr13 : Rd w A11 c12 1 dst10.length (dst10.flatMap (eI .u8))) (r : Bool) (hF : F_law07_TransParses proto1 b2 src6 dst10 = some r) :
  CallsR Try.prog 4 [v8 proto1, .slice A3 (b2).length c4, .slice A7 (src6).length c8, .slice A11 (dst10).length c12] w (fun v w' => v = vB r ∧ Mem w [] w' []) := by
 refine calls_KC Try.func4 rfl Try.ntmps4 rfl ?_
 have hM := Mem.init w
 unfold F_law07_TransParses at hF
 refine sr fun Q14 hQ14 => ?_
 refine va rfl rfl ?_
 refine nt hQ14 ?_
 clear hQ14 Q14
 refine KC.seqH fun Q15 hQ15 => ?_
 refine KC.cut (fun a w17 => ∃ (t16 : Bool), Kn 108 [(0, v8 proto1), (1, .slice A3 (b2).length c4), (2, .slice A7 (src6).length c8), (3, .slice A11 (dst10).length c12), (29, vB t16)] a ∧ Mem w [] w17 [] ∧ F_law07_TransParses_j1 proto1 b2 src6 dst10 t16 = some r) ?_ ?_
 ·refine KC.region ?_
  refine vm rfl rfl ?_
  refine RL.val (O.len sl24 rfl) rfl ?_
  refine RL.val (O.gtr rfl rfl) rfl ?_
  refine vm rfl rfl ?_
  refine RL.bcase (t := 20) rfl (fun hc => ?_) (fun hc => ?_)
  ·rw [if_pos hc] at hF
   refine RL.brun1 9 29 true (by kernel_rfl) ?_
   refine RL.nil ?_
   refine KQ.then_k ?_
   exact fun a ha => ⟨true, ha.less (less_cons rfl (less_cons rfl (less_cons rfl (less_cons rfl (less_cons rfl less_nil))))), hM, hF⟩
  rw [if_neg (ne_true hc)] at hF
  refine RL.gval rfl rfl (O.move rfl) rfl ?_
  refine RL.gval rfl rfl (O.len sl24 rfl) rfl ?_
  refine RL.gval rfl rfl (O.gtr rfl rfl) rfl ?_
  refine RL.val (O.pickf rfl rfl) rfl ?_
  refine vm rfl rfl ?_
  refine RL.bcase (t := 25) rfl (fun hc => ?_) (fun hc => ?_)
  ·rw [if_pos hc] at hF
   refine RL.brun1 4 29 true (by kernel_rfl) ?_
   refine RL.nil ?_
   refine KQ.then_k ?_
   exact fun a ha => ⟨true, ha.less (less_cons rfl (less_cons rfl (less_cons rfl (less_cons rfl (less_cons rfl less_nil))))), hM, hF⟩
  rw [if_neg (ne_true hc)] at hF
  refine RL.gval rfl rfl (O.move rfl) rfl ?_
  refine RL.gval rfl rfl (O.len sl24 rfl) rfl ?_
  refine RL.gval rfl rfl (O.gtr rfl rfl) rfl ?_
  refine RL.val (O.pickf rfl rfl) rfl ?_
  refine RL.nil ?_
  refine KQ.then_k ?_
  exact fun a ha => ⟨(decide (40 < (dst10.length : Int))), ha.less (less_cons rfl (less_cons rfl (less_cons rfl (less_cons rfl (less_cons rfl less_nil))))), hM, hF⟩
 rintro a w17 ⟨t16, ha, hM, hF⟩
 refine KC.app ha ?_
 clear ha
 unfold F_law07_TransParses_j1 at hF
 refine KC.cond rfl (fun hc => ?_) (fun hc => ?_)
 ·rw [if_pos hc] at hF
  refine sr fun Q18 hQ18 => ?_
  refine obindE hF fun y19 hx20 hF => ?_
  refine RL.call Try.func8 bd8 rfl rfl (c_law07_works _ _ hx20) fun v w21 hv => ?_
  obtain ⟨rfl, hN22⟩ := hv
  replace hM := hM.call0 hN22
  refine va rfl rfl ?_
  refine nt hQ18 ?_
  clear hQ18 Q18
  refine KC.ret ?_
  refine KQ.thr hQ15 ?_
  clear hQ15 Q15
  have hE := Option.some.inj hF
  clear hF
  subst hE
  refine KQ.rets Try.results4 (RVs.cons (RV.tm rfl) RVs.nil) ?_
  exact ⟨_, rfl, rfl, hM⟩
 rw [if_neg (ne_true hc)] at hF
 refine KC.skip ?_
 refine KQ.thn hQ15 ?_
 clear hQ15 Q15
 refine sr fun Q23 hQ23 => ?_
 refine vm rfl rfl ?_
 refine RL.val (O.b2s sl24 Try.underlying5 Try.underlying9 rfl ((hM.inp hr5 Off.nil))) rfl ?_
 refine va rfl rfl ?_
 refine nt hQ23 ?_
 clear hQ23 Q23
 refine sr fun Q24 hQ24 => ?_
 refine vm rfl rfl ?_
 refine vm rfl rfl ?_
 refine obindE hF fun y25 hx26 hF => ?_
 refine RL.call Try.func18 bd18 rfl rfl (c_ref07_Parse _ proto1 (strOfNums b2) _ hx26) fun v w27 hv => ?_
 obtain ⟨rfl, hN28⟩ := hv
 replace hM := hM.call0 hN28
 refine vm rfl rfl ?_
 refine RL.val (O.ext rfl rfl) rfl ?_
 refine RL.val (O.ext rfl rfl) rfl ?_
 refine RL.eff (E.alloc hM ze30) rfl fun v w30 hv => ?_
 clear hM
 obtain ⟨g29, rfl, hM, hf⟩ := hv
 refine RL.effs (E.stB (j := 0) (off := 0) (vs := [v8 y25.1.f_Proto, v16 y25.1.f_Src, v16 y25.1.f_Dst, v32 y25.1.f_Seq, v32 y25.1.f_Ack, v8 y25.1.f_Flags, v16 y25.1.f_Window, v16 y25.1.f_Urgent, Value.string y25.1.f_Options, v8 y25.1.f_Type, v8 y25.1.f_Code, Value.string y25.1.f_Data]) (cs' := [v8 y25.1.f_Proto, v16 y25.1.f_Src, v16 y25.1.f_Dst, v32 y25.1.f_Seq, v32 y25.1.f_Ack, v8 y25.1.f_Flags, v16 y25.1.f_Window, v16 y25.1.f_Urgent, Value.string y25.1.f_Options, v8 y25.1.f_Type, v8 y25.1.f_Code, Value.string y25.1.f_Data]) hM rfl sz30 rfl (adds_eq [] rfl) rfl rfl (One.all rfl) rfl rfl) fun w32 hM1 => ?_
 clear hM
 have hM := hM1
 clear hM1
 refine va rfl rfl ?_
 refine nt hQ24 ?_
 clear hQ24 Q24
 refine KC.seqH fun Q33 hQ33 => ?_
 refine sr fun Q34 hQ34 => ?_
 refine va rfl rfl ?_
 refine nt hQ34 ?_
 clear hQ34 Q34
 refine KC.block ?_
 refine KC.loop (fun k315 a w313 => ∃ (t312 : Int), Kn 108 [(0, v8 proto1), (1, .slice A3 (b2).length c4), (2, .slice A7 (src6).length c8), (3, .slice A11 (dst10).length c12), (9, Value.string (strOfNums b2)), (10, .pointer (some ⟨g29, 0, none⟩)), (11, vI y25.2), (12, vI t312)] a ∧ Mem w [] w313 [.box g29 30 [v8 y25.1.f_Proto, v16 y25.1.f_Src, v16 y25.1.f_Dst, v32 y25.1.f_Seq, v32 y25.1.f_Ack, v8 y25.1.f_Flags, v16 y25.1.f_Window, v16 y25.1.f_Urgent, Value.string y25.1.f_Options, v8 y25.1.f_Type, v8 y25.1.f_Code, Value.string y25.1.f_Data]] ∧ F_law07_TransParses_L1 proto1 b2 src6 dst10 y25 k315 t312 = some r) ?_ ?_
 ·exact fun a ha => ⟨fuel0, 0, ha.less (less_cons rfl (less_cons rfl (less_cons rfl (less_cons rfl (less_cons rfl (less_cons rfl (less_cons rfl (less_cons rfl less_nil)))))))), hM, hF⟩
 rintro k315 a w313 ⟨t312, ha, hM, hF⟩
 refine KC.app ha ?_
 clear ha
 cases k315 with
 | zero => exact (none_some hF).elim
 | succ k315 =>
 have hF : F_law07_TransParses_l1 (F_law07_TransParses_L1 proto1 b2 src6 dst10 y25 k315) proto1 b2 src6 dst10 y25 t312 = some r := hF
 unfold F_law07_TransParses_l1 at hF
 refine KC.seqH fun Q316 hQ316 => ?_
 refine sr fun Q317 hQ317 => ?_
 refine vm rfl rfl ?_
 refine RL.val (O.lss rfl rfl) rfl ?_
 refine nt hQ317 ?_
 clear hQ317 Q317
 refine KC.cond rfl (fun hc => ?_) (fun hc => ?_)
 ·rw [if_pos hc] at hF
  refine KC.skip ?_
  refine KQ.thn hQ316 ?_
  clear hQ316 Q316
  refine KC.seqH fun Q318 hQ318 => ?_
  refine KC.block ?_
  refine sr fun Q319 hQ319 => ?_
  refine vm rfl rfl ?_
  refine vm rfl rfl ?_
  refine obindE hF fun y320 hx321 hF => ?_
  refine RL.call Try.func19 bd19 rfl rfl (c_trans_Parse _ proto1 _ _ b2 (hM.inp hr5 Off.nil) _ hx321) fun v w322 hv => ?_
  obtain ⟨A324, c325, A327, c328, rfl, hN323⟩ := hv
  replace hM := hM.call hN323
  refine vm rfl rfl ?_
  refine RL.val (O.ext rfl rfl) rfl ?_
  refine RL.val (O.ext rfl rfl) rfl ?_
  refine RL.eff (E.alloc hM ze26) rfl fun v w331 hv => ?_
  clear hM
  obtain ⟨g330, rfl, hM, hf⟩ := hv
  refine RL.effs (E.stB (j := 3) (off := 0) (vs := [v8 y320.1.f_Proto, v16 y320.1.f_Src, v16 y320.1.f_Dst, v32 y320.1.f_Seq, v32 y320.1.f_Ack, v8 y320.1.f_Flags, v16 y320.1.f_Window, v16 y320.1.f_Urgent, .slice A324 (y320.1.f_Options).length c325, v8 y320.1.f_Type, v8 y320.1.f_Code, .slice A327 (y320.1.f_Data).length c328]) (cs' := [v8 y320.1.f_Proto, v16 y320.1.f_Src, v16 y320.1.f_Dst, v32 y320.1.f_Seq, v32 y320.1.f_Ack, v8 y320.1.f_Flags, v16 y320.1.f_Window, v16 y320.1.f_Urgent, .slice A324 (y320.1.f_Options).length c325, v8 y320.1.f_Type, v8 y320.1.f_Code, .slice A327 (y320.1.f_Data).length c328]) hM rfl sz26 rfl (adds_eq [] rfl) rfl rfl (One.all rfl) rfl rfl) fun w333 hM1 => ?_
  clear hM
  have hM := hM1
  clear hM1
  refine va rfl rfl ?_
  refine nt hQ319 ?_
  clear hQ319 Q319
  refine KC.seqH fun Q334 hQ334 => ?_
  refine KC.cut (fun a w344 => ∃ (t343 : Bool), Kn 108 [(0, v8 proto1), (1, .slice A3 (b2).length c4), (2, .slice A7 (src6).length c8), (3, .slice A11 (dst10).length c12), (9, Value.string (strOfNums b2)), (10, .pointer (some ⟨g29, 0, none⟩)), (11, vI y25.2), (12, vI t312), (13, .pointer (some ⟨g330, 0, none⟩)), (57, vB t343)] a ∧ Mem w [] w344 [.box g29 30 [v8 y25.1.f_Proto, v16 y25.1.f_Src, v16 y25.1.f_Dst, v32 y25.1.f_Seq, v32 y25.1.f_Ack, v8 y25.1.f_Flags, v16 y25.1.f_Window, v16 y25.1.f_Urgent, Value.string y25.1.f_Options, v8 y25.1.f_Type, v8 y25.1.f_Code, Value.string y25.1.f_Data], .row A324 c325 5 1 (y320.1.f_Options).length ((y320.1.f_Options).flatMap (eI .u8)), .row A327 c328 5 1 (y320.1.f_Data).length ((y320.1.f_Data).flatMap (eI .u8)), .box g330 26 [v8 y320.1.f_Proto, v16 y320.1.f_Src, v16 y320.1.f_Dst, v32 y320.1.f_Seq, v32 y320.1.f_Ack, v8 y320.1.f_Flags, v16 y320.1.f_Window, v16 y320.1.f_Urgent, .slice A324 (y320.1.f_Options).length c325, v8 y320.1.f_Type, v8 y320.1.f_Code, .slice A327 (y320.1.f_Data).length c328]] ∧ F_law07_TransParses_j2 t312 (F_law07_TransParses_L1 proto1 b2 src6 dst10 y25 k315) y320 t343 = some r) ?_ ?_
  ·replace hM := hM.drewN 1
   refine KC.draw [] [] [5] [0, 1, 2, 3, 7, 8] (.ofList [0, 1, 2, 3, 4, 6, 5, 7, 8]) moP (by kernel_rfl) ?_
   refine RD.p rfl rfl rfl rfl (fun w' => O.move rfl) ?_
   refine RD.p rfl rfl rfl rfl (fun w' => O.move rfl) ?_
   refine RD.p rfl rfl rfl rfl (fun w' => O.neq rfl rfl) ?_
   refine RD.p rfl rfl rfl rfl (fun w' => O.move rfl) ?_
   refine RD.bcase (t := 52) rfl (fun hc => ?_) (fun hc => ?_)
   ·rw [if_pos hc] at hF
    refine RD.gskip rfl rfl rfl rfl rfl ?_
    refine RD.gskip rfl rfl rfl rfl rfl ?_
    refine RD.gskip rfl rfl rfl rfl rfl ?_
    refine RD.gskip rfl rfl rfl rfl rfl ?_
    refine RD.p rfl rfl rfl rfl (fun w' => O.pickt rfl rfl) ?_
    refine RD.nil ?_
    refine KQ.then_k ?_
    exact fun a ha => ⟨true, ha.less (less_cons rfl (less_cons rfl (less_cons rfl (less_cons rfl (less_cons rfl (less_cons rfl (less_cons rfl (less_cons rfl (less_cons rfl (less_cons rfl less_nil)))))))))), hM, hF⟩
   rw [if_neg (ne_true hc)] at hF
   refine RD.gq rfl rfl rfl rfl rfl rfl (fun w' hf => O.loadN (cs := [v8 y320.1.f_Proto, v16 y320.1.f_Src, v16 y320.1.f_Dst, v32 y320.1.f_Seq, v32 y320.1.f_Ack, v8 y320.1.f_Flags, v16 y320.1.f_Window, v16 y320.1.f_Urgent, .slice A324 (y320.1.f_Options).length c325, v8 y320.1.f_Type, v8 y320.1.f_Code, .slice A327 (y320.1.f_Data).length c328]) ag26 rfl (Cs.addsN [] ((hM.bx (i := 3) rfl).fut hf) rfl)) ?_
   refine RD.gq rfl rfl rfl rfl rfl rfl (fun w' hf => O.loadN (cs := [v8 y25.1.f_Proto, v16 y25.1.f_Src, v16 y25.1.f_Dst, v32 y25.1.f_Seq, v32 y25.1.f_Ack, v8 y25.1.f_Flags, v16 y25.1.f_Window, v16 y25.1.f_Urgent, Value.string y25.1.f_Options, v8 y25.1.f_Type, v8 y25.1.f_Code, Value.string y25.1.f_Data]) ag30 rfl (Cs.addsN [] ((hM.bx (i := 0) rfl).fut hf) rfl)) ?_
   refine obindE hF fun y335 hx336 hF => ?_
   refine RD.mcall rfl rfl ⟨rfl, rfl⟩ Try.func9 bd9 rfl rfl (c_docs_Trans _ y320.1 _ _ (hM.rd (i := 1) rfl) _ _ (hM.rd (i := 2) rfl) _ hx336) fun v w337 hv => ?_
   obtain ⟨rfl, hN338⟩ := hv
   refine ⟨fun _ => hN338.fut, ?_⟩
   replace hM := hM.call0 hN338
   refine RD.gp rfl rfl rfl rfl rfl rfl (fun w' => O.stne (cs := [v8 y335.f_Proto, v16 y335.f_Src, v16 y335.f_Dst, v32 y335.f_Seq, v32 y335.f_Ack, v8 y335.f_Flags, v16 y335.f_Window, v16 y335.f_Urgent, Value.string y335.f_Options, v8 y335.f_Type, v8 y335.f_Code, Value.string y335.f_Data]) (cs' := [v8 y25.1.f_Proto, v16 y25.1.f_Src, v16 y25.1.f_Dst, v32 y25.1.f_Seq, v32 y25.1.f_Ack, v8 y25.1.f_Flags, v16 y25.1.f_Window, v16 y25.1.f_Urgent, Value.string y25.1.f_Options, v8 y25.1.f_Type, v8 y25.1.f_Code, Value.string y25.1.f_Data]) (by kernel_rfl) rfl rfl (Q30t y335 y25.1 _ rfl rfl)) ?_
   refine RD.p rfl rfl rfl rfl (fun w' => O.pickf rfl rfl) ?_
   refine RD.nil ?_
   refine KQ.then_k ?_
   exact fun a ha => ⟨(!(q_ref07_Segment y335 y25.1)), ha.less (less_cons rfl (less_cons rfl (less_cons rfl (less_cons rfl (less_cons rfl (less_cons rfl (less_cons rfl (less_cons rfl (less_cons rfl (less_cons rfl less_nil)))))))))), hM, hF⟩
  rintro a w344 ⟨t343, ha, hM, hF⟩
  refine KC.app ha ?_
  clear ha
  unfold F_law07_TransParses_j2 at hF
  refine KC.cond rfl (fun hc => ?_) (fun hc => ?_)
  ·rw [if_pos hc] at hF
   refine sr fun Q345 hQ345 => ?_
   refine va rfl rfl ?_
   refine nt hQ345 ?_
   clear hQ345 Q345
   refine KC.ret ?_
   refine KQ.thr hQ334 ?_
   clear hQ334 Q334
   refine KQ.blk_r ?_
   refine KQ.thr hQ318 ?_
   clear hQ318 Q318
   refine KQ.then_r ?_
   refine KQ.blk_r ?_
   refine KQ.thr hQ33 ?_
   clear hQ33 Q33
   have hE := Option.some.inj hF
   clear hF
   subst hE
   replace hM := hM.pick [] rfl (by decide)
   refine KQ.rets Try.results4 (RVs.cons (RV.tm rfl) RVs.nil) ?_
   exact ⟨_, rfl, rfl, hM⟩
  rw [if_neg (ne_true hc)] at hF
  refine KC.skip ?_
  refine KQ.thn hQ334 ?_
  clear hQ334 Q334
  refine KC.seqH fun Q346 hQ346 => ?_
  refine sr fun Q347 hQ347 => ?_
  refine va rfl rfl ?_
  refine nt hQ347 ?_
  clear hQ347 Q347
  refine KC.block ?_
  refine KC.loop (fun k388 a w386 => ∃ (A382 : Option Addr) (c383 : Nat) (s384 : List Int) (i385 : Int), Kn 108 [(0, v8 proto1), (1, .slice A3 (b2).length c4), (2, .slice A7 (src6).length c8), (3, .slice A11 (dst10).length c12), (9, Value.string (strOfNums b2)), (10, .pointer (some ⟨g29, 0, none⟩)), (11, vI y25.2), (12, vI t312), (13, .pointer (some ⟨g330, 0, none⟩)), (15, vI i385)] a ∧ Mem w [] w386 [.box g29 30 [v8 y25.1.f_Proto, v16 y25.1.f_Src, v16 y25.1.f_Dst, v32 y25.1.f_Seq, v32 y25.1.f_Ack, v8 y25.1.f_Flags, v16 y25.1.f_Window, v16 y25.1.f_Urgent, Value.string y25.1.f_Options, v8 y25.1.f_Type, v8 y25.1.f_Code, Value.string y25.1.f_Data], .row A324 c325 5 1 (y320.1.f_Options).length ((y320.1.f_Options).flatMap (eI .u8)), .row A382 c383 5 1 (s384).length ((s384).flatMap (eI .u8)), .box g330 26 [v8 y320.1.f_Proto, v16 y320.1.f_Src, v16 y320.1.f_Dst, v32 y320.1.f_Seq, v32 y320.1.f_Ack, v8 y320.1.f_Flags, v16 y320.1.f_Window, v16 y320.1.f_Urgent, .slice A324 (y320.1.f_Options).length c325, v8 y320.1.f_Type, v8 y320.1.f_Code, .slice A382 (s384).length c383]] ∧ F_law07_TransParses_L2 t312 (F_law07_TransParses_L1 proto1 b2 src6 dst10 y25 k315) y320 k388 s384 i385 = some r) ?_ ?_
  ·exact fun a ha => ⟨fuel0, A327, c328, y320.1.f_Data, 0, ha.less (less_cons rfl (less_cons rfl (less_cons rfl (less_cons rfl (less_cons rfl (less_cons rfl (less_cons rfl (less_cons rfl (less_cons rfl (less_cons rfl less_nil)))))))))), hM, hF⟩
  rintro k388 a w386 ⟨A382, c383, s384, i385, ha, hM, hF⟩
  refine KC.app ha ?_
  clear ha
  cases k388 with
  | zero => exact (none_some hF).elim
  | succ k388 =>
  have hF : F_law07_TransParses_l2 (F_law07_TransParses_L2 t312 (F_law07_TransParses_L1 proto1 b2 src6 dst10 y25 k315) y320 k388) t312 (F_law07_TransParses_L1 proto1 b2 src6 dst10 y25 k315) y320 s384 i385 = some r := hF
  unfold F_law07_TransParses_l2 at hF
  refine KC.seqH fun Q389 hQ389 => ?_
  refine sr fun Q390 hQ390 => ?_
  refine vm rfl rfl ?_
  refine RL.val (O.fldA fl26_11 (by decide) rfl) rfl ?_
  refine RL.val (O.load sc24 rfl (Cs.adds [11] ((hM.bx (i := 3) rfl)) rfl)) rfl ?_
  refine RL.val (O.len sl24 rfl) rfl ?_
  refine RL.val (O.lss rfl rfl) rfl ?_
  refine nt hQ390 ?_
  clear hQ390 Q390
  refine KC.cond rfl (fun hc => ?_) (fun hc => ?_)
  ·rw [if_pos hc] at hF
   refine KC.skip ?_
   refine KQ.thn hQ389 ?_
   clear hQ389 Q389
   refine KC.seqH fun Q391 hQ391 => ?_
   refine KC.block ?_
   refine KC.region ?_
   refine RL.val (O.fldA fl26_11 (by decide) rfl) rfl ?_
   refine RL.val (O.load sc24 rfl (Cs.adds [11] ((hM.bx (i := 3) rfl)) rfl)) rfl ?_
   refine vm rfl rfl ?_
   refine obindE hF fun xv394 hx393 hF => ?_
   have hA392 := Rd.atN (f := (eI .u8)) (s := 1) (fun _ => rfl) (by decide) (hM.rd (i := 2) rfl) hx393
   refine RL.val (O.idxA sl24 (hA392) rfl rfl) rfl ?_
   refine RL.val (O.load sc5 rfl (hA392).cells.at0) rfl ?_
   refine RL.val (O.add rfl rfl) rfl ?_
   refine obindE hF fun xv397 hx396 hF => ?_
   have hA395 := Rd.atN (f := (eI .u8)) (s := 1) (fun _ => rfl) (by decide) (hM.rd (i := 2) rfl) hx396
   refine RL.val (O.idxA sl24 (hA395) rfl rfl) rfl ?_
   refine RL.effs (E.stR (enc := (eI .u8)) (j := 2) (off := 0) (vs := [v8 (IntKind.u8.wrap (xv394 + 1))]) (x' := (IntKind.u8.wrap (xv394 + 1))) hM rfl (fun _ => rfl) hx396 sz5 rfl (addsR_eq [] rfl) rfl rfl (One.all rfl) rfl rfl) fun w398 hM1 => ?_
   clear hM
   obtain ⟨hM, hn399⟩ := hM1
   refine RL.reslot (t := 66) rfl hn399 ?_
   replace hM := hM.rebox (i := 3) (cs' := [v8 y320.1.f_Proto, v16 y320.1.f_Src, v16 y320.1.f_Dst, v32 y320.1.f_Seq, v32 y320.1.f_Ack, v8 y320.1.f_Flags, v16 y320.1.f_Window, v16 y320.1.f_Urgent, .slice A324 (y320.1.f_Options).length c325, v8 y320.1.f_Type, v8 y320.1.f_Code, .slice A382 ((s384.set (i385 : Int).toNat (IntKind.u8.wrap (xv394 + 1)))).length c383]) rfl (by rw [← hn399])
   refine RL.nil ?_
   refine KQ.blk_n ?_
   refine KQ.thn hQ391 ?_
   clear hQ391 Q391
   refine KC.region ?_
   refine vm rfl rfl ?_
   refine RL.val (O.add rfl rfl) rfl ?_
   refine va rfl rfl ?_
   refine RL.nil ?_
   refine KQ.then_k ?_
   exact fun a ha => ⟨k388, Nat.lt_succ_self k388, A382, c383, (s384.set (i385 : Int).toNat (IntKind.u8.wrap (xv394 + 1))), (IntKind.i64.wrap (i385 + 1)), ha.less (less_cons rfl (less_cons rfl (less_cons rfl (less_cons rfl (less_cons rfl (less_cons rfl (less_cons rfl (less_cons rfl (less_cons rfl (less_cons rfl less_nil)))))))))), hM, hF⟩
  rw [if_neg (ne_true hc)] at hF
  refine KC.exit ?_
  refine KQ.thx hQ389 ?_
  clear hQ389 Q389
  refine KQ.then_x ?_
  refine KQ.blk_x ?_
  refine KQ.thn hQ346 ?_
  clear hQ346 Q346
  refine sr fun Q400 hQ400 => ?_
  refine va rfl rfl ?_
  refine nt hQ400 ?_
  clear hQ400 Q400
  refine KC.block ?_
  refine KC.loop (fun k441 a w439 => ∃ (A434 : Option Addr) (c435 : Nat) (s436 : List Int) (i438 : Int), Kn 108 [(0, v8 proto1), (1, .slice A3 (b2).length c4), (2, .slice A7 (src6).length c8), (3, .slice A11 (dst10).length c12), (9, Value.string (strOfNums b2)), (10, .pointer (some ⟨g29, 0, none⟩)), (11, vI y25.2), (12, vI t312), (13, .pointer (some ⟨g330, 0, none⟩)), (16, vI i438)] a ∧ Mem w [] w439 [.box g29 30 [v8 y25.1.f_Proto, v16 y25.1.f_Src, v16 y25.1.f_Dst, v32 y25.1.f_Seq, v32 y25.1.f_Ack, v8 y25.1.f_Flags, v16 y25.1.f_Window, v16 y25.1.f_Urgent, Value.string y25.1.f_Options, v8 y25.1.f_Type, v8 y25.1.f_Code, Value.string y25.1.f_Data], .row A434 c435 5 1 (s436).length ((s436).flatMap (eI .u8)), .row A382 c383 5 1 (s384).length ((s384).flatMap (eI .u8)), .box g330 26 [v8 y320.1.f_Proto, v16 y320.1.f_Src, v16 y320.1.f_Dst, v32 y320.1.f_Seq, v32 y320.1.f_Ack, v8 y320.1.f_Flags, v16 y320.1.f_Window, v16 y320.1.f_Urgent, .slice A434 (s436).length c435, v8 y320.1.f_Type, v8 y320.1.f_Code, .slice A382 (s384).length c383]] ∧ F_law07_TransParses_L3 t312 (F_law07_TransParses_L1 proto1 b2 src6 dst10 y25 k315) k441 s436 i438 = some r) ?_ ?_
  ·exact fun a ha => ⟨fuel0, A324, c325, y320.1.f_Options, 0, ha.less (less_cons rfl (less_cons rfl (less_cons rfl (less_cons rfl (less_cons rfl (less_cons rfl (less_cons rfl (less_cons rfl (less_cons rfl (less_cons rfl less_nil)))))))))), hM, hF⟩
  rintro k441 a w439 ⟨A434, c435, s436, i438, ha, hM, hF⟩
  refine KC.app ha ?_
  clear ha
  cases k441 with
  | zero => exact (none_some hF).elim
  | succ k441 =>
  have hF : F_law07_TransParses_l3 (F_law07_TransParses_L3 t312 (F_law07_TransParses_L1 proto1 b2 src6 dst10 y25 k315) k441) t312 (F_law07_TransParses_L1 proto1 b2 src6 dst10 y25 k315) s436 i438 = some r := hF
  unfold F_law07_TransParses_l3 at hF
  refine KC.seqH fun Q442 hQ442 => ?_
  refine sr fun Q443 hQ443 => ?_
  refine vm rfl rfl ?_
  refine RL.val (O.fldA fl26_8 (by decide) rfl) rfl ?_
  refine RL.val (O.load sc24 rfl (Cs.adds [8] ((hM.bx (i := 3) rfl)) rfl)) rfl ?_
  refine RL.val (O.len sl24 rfl) rfl ?_
  refine RL.val (O.lss rfl rfl) rfl ?_
  refine nt hQ443 ?_
  clear hQ443 Q443
  refine KC.cond rfl (fun hc => ?_) (fun hc => ?_)
  ·rw [if_pos hc] at hF
   refine KC.skip ?_
   refine KQ.thn hQ442 ?_
   clear hQ442 Q442
   refine KC.seqH fun Q444 hQ444 => ?_
   refine KC.block ?_
   refine KC.region ?_
   refine RL.val (O.fldA fl26_8 (by decide) rfl) rfl ?_
   refine RL.val (O.load sc24 rfl (Cs.adds [8] ((hM.bx (i := 3) rfl)) rfl)) rfl ?_
   refine vm rfl rfl ?_
   refine obindE hF fun xv447 hx446 hF => ?_
   have hA445 := Rd.atN (f := (eI .u8)) (s := 1) (fun _ => rfl) (by decide) (hM.rd (i := 1) rfl) hx446
   refine RL.val (O.idxA sl24 (hA445) rfl rfl) rfl ?_
   refine RL.val (O.load sc5 rfl (hA445).cells.at0) rfl ?_
   refine RL.val (O.add rfl rfl) rfl ?_
   refine obindE hF fun xv450 hx449 hF => ?_
   have hA448 := Rd.atN (f := (eI .u8)) (s := 1) (fun _ => rfl) (by decide) (hM.rd (i := 1) rfl) hx449
   refine RL.val (O.idxA sl24 (hA448) rfl rfl) rfl ?_
   refine RL.effs (E.stR (enc := (eI .u8)) (j := 1) (off := 0) (vs := [v8 (IntKind.u8.wrap (xv447 + 1))]) (x' := (IntKind.u8.wrap (xv447 + 1))) hM rfl (fun _ => rfl) hx449 sz5 rfl (addsR_eq [] rfl) rfl rfl (One.all rfl) rfl rfl) fun w451 hM1 => ?_
   clear hM
   obtain ⟨hM, hn452⟩ := hM1
   refine RL.reslot (t := 80) rfl hn452 ?_
   replace hM := hM.rebox (i := 3) (cs' := [v8 y320.1.f_Proto, v16 y320.1.f_Src, v16 y320.1.f_Dst, v32 y320.1.f_Seq, v32 y320.1.f_Ack, v8 y320.1.f_Flags, v16 y320.1.f_Window, v16 y320.1.f_Urgent, .slice A434 ((s436.set (i438 : Int).toNat (IntKind.u8.wrap (xv447 + 1)))).length c435, v8 y320.1.f_Type, v8 y320.1.f_Code, .slice A382 (s384).length c383]) rfl (by rw [← hn452])
   refine RL.nil ?_
   refine KQ.blk_n ?_
   refine KQ.thn hQ444 ?_
   clear hQ444 Q444
   refine KC.region ?_
   refine vm rfl rfl ?_
   refine RL.val (O.add rfl rfl) rfl ?_
   refine va rfl rfl ?_
   refine RL.nil ?_
   refine KQ.then_k ?_
   exact fun a ha => ⟨k441, Nat.lt_succ_self k441, A434, c435, (s436.set (i438 : Int).toNat (IntKind.u8.wrap (xv447 + 1))), (IntKind.i64.wrap (i438 + 1)), ha.less (less_cons rfl (less_cons rfl (less_cons rfl (less_cons rfl (less_cons rfl (less_cons rfl (less_cons rfl (less_cons rfl (less_cons rfl (less_cons rfl less_nil)))))))))), hM, hF⟩
  rw [if_neg (ne_true hc)] at hF
  refine KC.exit ?_
  refine KQ.thx hQ442 ?_
  clear hQ442 Q442
  refine KQ.then_x ?_
  refine KQ.blk_x ?_
  refine KQ.blk_n ?_
  refine KQ.thn hQ318 ?_
  clear hQ318 Q318
  replace hM := hM.pick [0] rfl (by decide)
  refine KC.region ?_
  refine vm rfl rfl ?_
  refine RL.val (O.add rfl rfl) rfl ?_
  refine va rfl rfl ?_
  refine RL.nil ?_
  refine KQ.then_k ?_
  exact fun a ha => ⟨k315, Nat.lt_succ_self k315, (IntKind.i64.wrap (t312 + 1)), ha.less (less_cons rfl (less_cons rfl (less_cons rfl (less_cons rfl (less_cons rfl (less_cons rfl (less_cons rfl (less_cons rfl less_nil)))))))), hM, hF⟩
 rw [if_neg (ne_true hc)] at hF
 refine KC.exit ?_
 refine KQ.thx hQ316 ?_
 clear hQ316 Q316
 refine KQ.then_x ?_
 refine KQ.blk_x ?_
 refine KQ.thn hQ33 ?_
 clear hQ33 Q33
 refine KC.cut (fun a w466 => ∃ (t465 : Bool), Kn 108 [(8, vB t465)] a ∧ Mem w [] w466 [] ∧ F_law07_TransParses_j3 t465 = some r) ?_ ?_
 ·replace hM := hM.drewN 1
  refine KC.draw [] [] [4, 11, 20] [0, 1, 2, 3, 5, 6, 7, 9, 12, 13, 14, 16, 17, 18, 19, 21, 22] (.ofList [0, 1, 2, 3, 5, 6, 7, 8, 9, 10, 4, 11, 12, 13, 14, 15, 16, 17, 18, 19, 20, 21, 22]) moP (by kernel_rfl) ?_
  refine RD.p rfl rfl rfl rfl (fun w' => O.move rfl) ?_
  refine RD.p rfl rfl rfl rfl (fun w' => O.move rfl) ?_
  refine RD.p rfl rfl rfl rfl (fun w' => O.move rfl) ?_
  refine RD.p rfl rfl rfl rfl (fun w' => O.move rfl) ?_
  refine RD.p rfl rfl rfl rfl (fun w' => O.move rfl) ?_
  refine RD.p rfl rfl rfl rfl (fun w' => O.move rfl) ?_
  refine RD.p rfl rfl rfl rfl (fun w' => O.move rfl) ?_
  refine RD.q rfl rfl rfl rfl (fun w' hf => O.b2s sl24 Try.underlying5 Try.underlying9 rfl ((hM.inp hr9 Off.nil).fut hf)) ?_
  refine RD.p rfl rfl rfl rfl (fun w' => O.move rfl) ?_
  refine RD.q rfl rfl rfl rfl (fun w' hf => O.b2s sl24 Try.underlying5 Try.underlying9 rfl ((hM.inp hr13 Off.nil).fut hf)) ?_
  refine obindE hF fun y453 hx454 hF => ?_
  refine RD.mcall rfl rfl trivial Try.func20 bd20 rfl rfl (c_trans_Sound _ proto1 _ _ b2 (hM.inp hr5 Off.nil) _ _ src6 (hM.inp hr9 Off.nil) _ _ dst10 (hM.inp hr13 Off.nil) _ hx454) fun v w455 hv => ?_
  obtain ⟨rfl, hN456⟩ := hv
  refine ⟨fun _ => hN456.fut, ?_⟩
  replace hM := hM.call0 hN456
  refine obindE hF fun y457 hx458 hF => ?_
  refine RD.mcall rfl rfl trivial Try.func21 bd21 rfl rfl (c_ref07_Sound _ proto1 (strOfNums b2) (strOfNums src6) (strOfNums dst10) _ hx458) fun v w459 hv => ?_
  obtain ⟨rfl, hN460⟩ := hv
  refine ⟨fun _ => hN460.fut, ?_⟩
  replace hM := hM.call0 hN460
  refine RD.p rfl rfl rfl rfl (fun w' => O.eqlb Try.underlying4 rfl rfl) ?_
  refine RD.p rfl rfl rfl rfl (fun w' => O.move rfl) ?_
  refine RD.bcase (t := 99) rfl (fun hc => ?_) (fun hc => ?_)
  ·rw [if_pos hc] at hF
   refine RD.gp rfl rfl rfl rfl rfl rfl (fun w' => O.move rfl) ?_
   refine RD.gq rfl rfl rfl rfl rfl rfl (fun w' hf => O.b2s sl24 Try.underlying5 Try.underlying9 rfl ((hM.inp hr5 Off.nil).fut hf)) ?_
   refine RD.gp rfl rfl rfl rfl rfl rfl (fun w' => O.move rfl) ?_
   refine RD.gp rfl rfl rfl rfl rfl rfl (fun w' => O.streq rfl rfl) ?_
   refine RD.p rfl rfl rfl rfl (fun w' => O.pickt rfl rfl) ?_
   refine RD.p rfl rfl rfl rfl (fun w' => O.move rfl) ?_
   refine RD.bcase (t := 105) rfl (fun hc => ?_) (fun hc => ?_)
   ·rw [if_pos hc] at hF
    refine obindE hF fun y461 hx462 hF => ?_
    refine RD.mcall rfl rfl ⟨rfl, rfl⟩ Try.func8 bd8 rfl rfl (c_law07_works _ _ hx462) fun v w463 hv => ?_
    obtain ⟨rfl, hN464⟩ := hv
    refine ⟨fun _ => hN464.fut, ?_⟩
    replace hM := hM.call0 hN464
    refine RD.p rfl rfl rfl rfl (fun w' => O.pickt rfl rfl) ?_
    refine RD.p rfl rfl rfl rfl (fun w' => O.assign rfl) ?_
    refine RD.nil ?_
    refine KQ.then_k ?_
    replace hM := hM.pick [] rfl (by decide)
    exact fun a ha => ⟨y461, ha.less (less_cons rfl less_nil), hM, hF⟩
   rw [if_neg (ne_true hc)] at hF
   refine RD.gskip rfl rfl rfl rfl rfl ?_
   refine RD.p rfl rfl rfl rfl (fun w' => O.pickf rfl rfl) ?_
   refine RD.p rfl rfl rfl rfl (fun w' => O.assign rfl) ?_
   refine RD.nil ?_
   refine KQ.then_k ?_
   replace hM := hM.pick [] rfl (by decide)
   exact fun a ha => ⟨false, ha.less (less_cons rfl less_nil), hM, hF⟩
  rw [if_neg (ne_true hc)] at hF
  refine RD.brun1 [14, 15, 16, 17, 18, 19, 20, 21] 107 false (by kernel_rfl) ?_
  refine RD.p rfl rfl rfl rfl (fun w' => O.assign rfl) ?_
  refine RD.nil ?_
  refine KQ.then_k ?_
  replace hM := hM.pick [] rfl (by decide)
  exact fun a ha => ⟨false, ha.less (less_cons rfl less_nil), hM, hF⟩
 rintro a w466 ⟨t465, ha, hM, hF⟩
 refine KC.app ha ?_
 clear ha
 unfold F_law07_TransParses_j3 at hF
 refine KC.ret ?_
 have hE := Option.some.inj hF
 clear hF
 subst hE
 refine KQ.rets Try.results4 (RVs.cons (RV.tm rfl) RVs.nil) ?_
 exact ⟨_, rfl, rfl, hM⟩
set_option maxRecDepth 100000 in
set_option maxHeartbeats 40000000 in
theorem c_ref01_Join (w : World) (A2 : Option Addr) (c3 : Nat) (av1 : List Int) (hr4 : Rd w A2 c3 1 av1.length (av1.flatMap (eI .u8))) (A6 : Option Addr) (c7 : Nat) (b5 : List Int) (hr8 : Rd w A6 c7 1 b5.length (b5.flatMap (eI .u8))) (r : (List Int)) (hF : F_ref01_Join av1 b5 = some r) :
  CallsR Try.prog 22 [.slice A2 (av1).length c3, .slice A6 (b5).length c7] w (fun v w' => ∃ (A0 : Option Addr) (c0 : Nat), v = .slice A0 (r).length c0 ∧ Mem w [] w' [.row A0 c0 5 1 r.length (r.flatMap (eI .u8))]) := by
 refine calls_KC Try.func22 rfl Try.ntmps22 rfl ?_
 have hM := Mem.init w
 unfold F_ref01_Join at hF
 refine sr fun Q9 hQ9 => ?_
 refine va rfl rfl ?_
 refine nt hQ9 ?_
 clear hQ9 Q9
 refine sr fun Q10 hQ10 => ?_
 refine va rfl rfl ?_
 refine nt hQ10 ?_
 clear hQ10 Q10
 refine sr fun Q11 hQ11 => ?_
 refine vm rfl rfl ?_
 refine vm rfl rfl ?_
 refine cut_someE hF fun hq15 hF => ?_
 refine RL.eff (E.app0 (enc := (eI .u8)) (ys := av1) hM sl24 ze5 rfl rfl rfl rfl rfl (hM.inp hr4 Off.nil) (fun _ => One.all rfl) (of_decide_eq_true hq15)) rfl fun v w14 hv => ?_
 clear hM
 obtain ⟨A12, c13, rfl, hM, hf⟩ := hv
 refine va rfl rfl ?_
 refine nt hQ11 ?_
 clear hQ11 Q11
 refine sr fun Q17 hQ17 => ?_
 refine vm rfl rfl ?_
 refine vm rfl rfl ?_
 refine cut_someE hF fun hq21 hF => ?_
 refine RL.eff (E.app (enc := (eI .u8)) (xs := av1) (ys := b5) (j := 0) hM rfl sl24 ze5 rfl rfl rfl rfl rfl (hM.inp hr8 Off.nil) (fun _ => One.all rfl) (of_decide_eq_true hq21)) rfl fun v w20 hv => ?_
 clear hM
 obtain ⟨A18, c19, rfl, hM, hf⟩ := hv
 refine va rfl rfl ?_
 refine nt hQ17 ?_
 clear hQ17 Q17
 refine KC.ret ?_
 have hE := Option.some.inj hF
 clear hF
 subst hE
 refine KQ.rets Try.results22 (RVs.cons (RV.tm rfl) RVs.nil) ?_
 exact ⟨_, rfl, A18, c19, rfl, hM⟩
set_option maxRecDepth 100000 in
set_option maxHeartbeats 40000000 in
theorem c_kit_Pick (w : World) (i1 : Int) (nv2 : Int) (r : Int) (hF : F_kit_Pick i1 nv2 = some r) :
  CallsR Try.prog 23 [vI i1, vI nv2] w (fun v w' => v = vI r ∧ Mem w [] w' []) := by
 refine calls_KC Try.func23 rfl Try.ntmps23 rfl ?_
 have hM := Mem.init w
 unfold F_kit_Pick at hF
 refine sr fun Q3 hQ3 => ?_
 refine va rfl rfl ?_
 refine nt hQ3 ?_
 clear hQ3 Q3
 refine KC.seqH fun Q4 hQ4 => ?_
 refine sr fun Q5 hQ5 => ?_
 refine vm rfl rfl ?_
 refine RL.val (O.leq rfl rfl) rfl ?_
 refine nt hQ5 ?_
 clear hQ5 Q5
 refine KC.cond rfl (fun hc => ?_) (fun hc => ?_)
 ·rw [if_pos hc] at hF
  refine sr fun Q6 hQ6 => ?_
  refine va rfl rfl ?_
  refine nt hQ6 ?_
  clear hQ6 Q6
  refine KC.ret ?_
  refine KQ.thr hQ4 ?_
  clear hQ4 Q4
  have hE := Option.some.inj hF
  clear hF
  subst hE
  refine KQ.rets Try.results23 (RVs.cons (RV.tm rfl) RVs.nil) ?_
  exact ⟨_, rfl, rfl, hM⟩
 rw [if_neg (ne_true hc)] at hF
 refine KC.skip ?_
 refine KQ.thn hQ4 ?_
 clear hQ4 Q4
 refine sr fun Q7 hQ7 => ?_
 refine vm rfl rfl ?_
 refine vm rfl rfl ?_
 refine cut_someE hF fun hq8 hF => ?_
 refine RL.val (O.rem rfl rfl (of_decide_eq_true hq8)) rfl ?_
 refine vm rfl rfl ?_
 refine RL.val (O.add rfl rfl) rfl ?_
 refine vm rfl rfl ?_
 refine cut_someE hF fun hq9 hF => ?_
 refine RL.val (O.rem rfl rfl (of_decide_eq_true hq9)) rfl ?_
 refine va rfl rfl ?_
 refine nt hQ7 ?_
 clear hQ7 Q7
 refine KC.ret ?_
 have hE := Option.some.inj hF
 clear hF
 subst hE
 refine KQ.rets Try.results23 (RVs.cons (RV.tm rfl) RVs.nil) ?_
 exact ⟨_, rfl, rfl, hM⟩
end Go.Proofs.Ytcinagdkkclapaa
