/- Printed by a program of this claim: each call returns what the plain function of its name gives. -/
import Derived.Test.YtcinagdkkclapaaW1
import Derived.Test.YtcinagdkkclapaaW11
import Derived.Test.YtcinagdkkclapaaW12
import Derived.Test.YtcinagdkkclapaaW13
set_option linter.unusedVariables false
namespace Go.Proofs.Ytcinagdkkclapaa
open Go Go.Ox Go.RowKit
set_option maxRecDepth 100000 in
set_option maxHeartbeats 40000000 in
theorem c_ref07_Put (w : World) (s1 : T_ref07_Segment) (src2 : ByteArray) (dst3 : ByteArray) (r : (List Int) × Int) (hF : F_ref07_Put s1 src2 dst3 = some r) :
  CallsR Try.prog 10 [.agg #[v8 s1.f_Proto, v16 s1.f_Src, v16 s1.f_Dst, v32 s1.f_Seq, v32 s1.f_Ack, v8 s1.f_Flags, v16 s1.f_Window, v16 s1.f_Urgent, Value.string s1.f_Options, v8 s1.f_Type, v8 s1.f_Code, Value.string s1.f_Data], Value.string src2, Value.string dst3] w (fun v w' => ∃ (A0 : Option Addr) (c0 : Nat) (Z0 : List Nat), v = .tuple #[.slice A0 (r.1).length c0, vI r.2] ∧ Mem w [] w' [.res Z0 (RdP A0 c0 1 (r.1).length ((r.1).flatMap (eI .u8)))]) := by
 refine calls_KC Try.func10 rfl Try.ntmps10 rfl ?_
 have hM := Mem.init w
 unfold F_ref07_Put at hF
 refine sr fun Q4 hQ4 => ?_
 refine RL.eff (E.box (vs := [v8 s1.f_Proto, v16 s1.f_Src, v16 s1.f_Dst, v32 s1.f_Seq, v32 s1.f_Ack, v8 s1.f_Flags, v16 s1.f_Window, v16 s1.f_Urgent, Value.string s1.f_Options, v8 s1.f_Type, v8 s1.f_Code, Value.string s1.f_Data]) hM rfl rfl) rfl fun v w6 hv => ?_
 clear hM
 obtain ⟨g5, rfl, hM, hf⟩ := hv
 refine va rfl rfl ?_
 refine va rfl rfl ?_
 refine nt hQ4 ?_
 clear hQ4 Q4
 refine KC.seqH fun Q8 hQ8 => ?_
 refine sr fun Q9 hQ9 => ?_
 refine RL.val (O.fldA fl30_0 (by decide) rfl) rfl ?_
 refine RL.val (O.load sc5 rfl (Cs.adds [0] ((hM.bx (i := 0) rfl)) rfl)) rfl ?_
 refine obindE hF fun y10 hx11 hF => ?_
 refine RL.call Try.func25 bd25 rfl rfl (c_ref07_Head _ s1.f_Proto _ hx11) fun v w12 hv => ?_
 obtain ⟨rfl, hN13⟩ := hv
 replace hM := hM.call0 hN13
 refine RL.val (O.eql rfl rfl) rfl ?_
 refine nt hQ9 ?_
 clear hQ9 Q9
 refine KC.cond rfl (fun hc => ?_) (fun hc => ?_)
 ·rw [if_pos hc] at hF
  refine sr fun Q14 hQ14 => ?_
  refine va rfl rfl ?_
  refine va rfl rfl ?_
  refine nt hQ14 ?_
  clear hQ14 Q14
  refine KC.ret ?_
  refine KQ.thr hQ8 ?_
  clear hQ8 Q8
  have hE := Option.some.inj hF
  clear hF
  subst hE
  obtain ⟨Z15, hM⟩ := hM.nilRo 1 [0] rfl (by decide) (by decide)
  replace hM := hM.pick [1] rfl (by decide)
  refine KQ.rets Try.results10 (RVs.cons (RV.tm rfl) (RVs.cons (RV.tm rfl) RVs.nil)) ?_
  exact ⟨_, rfl, none, 0, Z15, rfl, hM⟩
 rw [if_neg (ne_true hc)] at hF
 refine KC.skip ?_
 refine KQ.thn hQ8 ?_
 clear hQ8 Q8
 refine KC.seqH fun Q17 hQ17 => ?_
 refine sr fun Q18 hQ18 => ?_
 refine RL.val (O.loadN (cs := [v8 s1.f_Proto, v16 s1.f_Src, v16 s1.f_Dst, v32 s1.f_Seq, v32 s1.f_Ack, v8 s1.f_Flags, v16 s1.f_Window, v16 s1.f_Urgent, Value.string s1.f_Options, v8 s1.f_Type, v8 s1.f_Code, Value.string s1.f_Data]) ag30 rfl (Cs.addsN [] ((hM.bx (i := 0) rfl)) rfl)) rfl ?_
 refine obindE hF fun y19 hx20 hF => ?_
 refine RL.call Try.func14 bd14 rfl rfl (c_ref07_Right _ s1 _ hx20) fun v w21 hv => ?_
 obtain ⟨rfl, hN22⟩ := hv
 replace hM := hM.call0 hN22
 refine RL.val (O.not rfl) rfl ?_
 refine nt hQ18 ?_
 clear hQ18 Q18
 refine KC.cond rfl (fun hc => ?_) (fun hc => ?_)
 ·rw [if_pos hc] at hF
  refine sr fun Q23 hQ23 => ?_
  refine va rfl rfl ?_
  refine va rfl rfl ?_
  refine nt hQ23 ?_
  clear hQ23 Q23
  refine KC.ret ?_
  refine KQ.thr hQ17 ?_
  clear hQ17 Q17
  have hE := Option.some.inj hF
  clear hF
  subst hE
  obtain ⟨Z24, hM⟩ := hM.nilRo 1 [0] rfl (by decide) (by decide)
  replace hM := hM.pick [1] rfl (by decide)
  refine KQ.rets Try.results10 (RVs.cons (RV.tm rfl) (RVs.cons (RV.tm rfl) RVs.nil)) ?_
  exact ⟨_, rfl, none, 0, Z24, rfl, hM⟩
 rw [if_neg (ne_true hc)] at hF
 refine KC.skip ?_
 refine KQ.thn hQ17 ?_
 clear hQ17 Q17
 refine KC.seqH fun Q26 hQ26 => ?_
 replace hM := hM.drewN 1
 refine KC.draw [] [] [3, 6] [0, 4, 5, 7, 8, 9, 10, 11] (.ofList [0, 1, 2, 4, 5, 3, 6, 7, 8, 9, 10, 11]) moP (by kernel_rfl) ?_
 refine RD.p rfl rfl rfl rfl (fun w' => O.fldA fl30_0 (by decide) rfl) ?_
 refine RD.q rfl rfl rfl rfl (fun w' hf => O.load sc5 rfl (Cs.adds [0] ((hM.bx (i := 0) rfl).fut hf) rfl)) ?_
 refine RD.q rfl rfl rfl rfl (fun w' hf => O.loadN (cs := [v8 s1.f_Proto, v16 s1.f_Src, v16 s1.f_Dst, v32 s1.f_Seq, v32 s1.f_Ack, v8 s1.f_Flags, v16 s1.f_Window, v16 s1.f_Urgent, Value.string s1.f_Options, v8 s1.f_Type, v8 s1.f_Code, Value.string s1.f_Data]) ag30 rfl (Cs.addsN [] ((hM.bx (i := 0) rfl).fut hf) rfl)) ?_
 refine RD.p rfl rfl rfl rfl (fun w' => O.move rfl) ?_
 refine RD.p rfl rfl rfl rfl (fun w' => O.move rfl) ?_
 refine obindE hF fun y27 hx28 hF => ?_
 refine RD.mcall rfl rfl trivial Try.func27 bd27 rfl rfl (c_ref07_Length _ s1 _ hx28) fun v w29 hv => ?_
 obtain ⟨rfl, hN30⟩ := hv
 refine ⟨fun _ => hN30.fut, ?_⟩
 replace hM := hM.call0 hN30
 refine obindE hF fun y31 hx32 hF => ?_
 refine RD.mcall rfl rfl trivial Try.func26 bd26 rfl rfl (c_ref07_pseudo _ s1.f_Proto y27 src2 dst3 _ hx32) fun v w33 hv => ?_
 obtain ⟨rfl, hN34⟩ := hv
 refine ⟨fun _ => hN34.fut, ?_⟩
 replace hM := hM.call0 hN34
 refine RD.p rfl rfl rfl rfl (fun w' => O.move rfl) ?_
 refine RD.p rfl rfl rfl rfl (fun w' => O.ext rfl rfl) ?_
 refine RD.p rfl rfl rfl rfl (fun w' => O.ext rfl rfl) ?_
 refine RD.p rfl rfl rfl rfl (fun w' => O.assign rfl) ?_
 refine RD.p rfl rfl rfl rfl (fun w' => O.assign rfl) ?_
 refine RD.nil ?_
 refine KQ.thn hQ26 ?_
 clear hQ26 Q26
 refine KC.seqH fun Q35 hQ35 => ?_
 refine sr fun Q36 hQ36 => ?_
 refine vm rfl rfl ?_
 refine RL.val (O.not rfl) rfl ?_
 refine nt hQ36 ?_
 clear hQ36 Q36
 refine KC.cond rfl (fun hc => ?_) (fun hc => ?_)
 ·rw [if_pos hc] at hF
  refine sr fun Q37 hQ37 => ?_
  refine va rfl rfl ?_
  refine va rfl rfl ?_
  refine nt hQ37 ?_
  clear hQ37 Q37
  refine KC.ret ?_
  refine KQ.thr hQ35 ?_
  clear hQ35 Q35
  have hE := Option.some.inj hF
  clear hF
  subst hE
  obtain ⟨Z38, hM⟩ := hM.nilRo 1 [0] rfl (by decide) (by decide)
  replace hM := hM.pick [1] rfl (by decide)
  refine KQ.rets Try.results10 (RVs.cons (RV.tm rfl) (RVs.cons (RV.tm rfl) RVs.nil)) ?_
  exact ⟨_, rfl, none, 0, Z38, rfl, hM⟩
 rw [if_neg (ne_true hc)] at hF
 refine KC.skip ?_
 refine KQ.thn hQ35 ?_
 clear hQ35 Q35
 refine sr fun Q40 hQ40 => ?_
 refine vm rfl rfl ?_
 refine RL.val (O.loadN (cs := [v8 s1.f_Proto, v16 s1.f_Src, v16 s1.f_Dst, v32 s1.f_Seq, v32 s1.f_Ack, v8 s1.f_Flags, v16 s1.f_Window, v16 s1.f_Urgent, Value.string s1.f_Options, v8 s1.f_Type, v8 s1.f_Code, Value.string s1.f_Data]) ag30 rfl (Cs.addsN [] ((hM.bx (i := 0) rfl)) rfl)) rfl ?_
 refine obindE hF fun y41 hx42 hF => ?_
 refine RL.call Try.func29 bd29 rfl rfl (c_ref07_stands _ s1 0 _ hx42) fun v w43 hv => ?_
 obtain ⟨rfl, hN44⟩ := hv
 replace hM := hM.call0 hN44
 refine cut_someE hF fun hq45 hF => ?_
 refine RL.val (O.addS (of_decide_eq_true hq45) rfl rfl) rfl ?_
 refine cut_someE hF fun hq49 hF => ?_
 refine RL.eff (E.s2b hM Try.underlying9 sl24 Try.underlying5 rfl (of_decide_eq_true hq49)) rfl fun v w48 hv => ?_
 clear hM
 obtain ⟨A46, c47, Z50, rfl, hM, hf⟩ := hv
 refine obindE hF fun y52 hx53 hF => ?_
 refine RL.call Try.func28 bd28 rfl rfl (c_ref03_Of _ _ _ (numsOfStr (y31.1 ++ y41)) (hM.rdP (i := 1) rfl) _ hx53) fun v w54 hv => ?_
 obtain ⟨rfl, hN55⟩ := hv
 replace hM := hM.call0 hN55
 refine va rfl rfl ?_
 refine nt hQ40 ?_
 clear hQ40 Q40
 refine KC.cut (fun a w61 => ∃ (nv60 : Int), Kn 47 [(3, .pointer (some ⟨g5, 0, none⟩)), (10, v16 nv60)] a ∧ Mem w [] w61 [.box g5 30 [v8 s1.f_Proto, v16 s1.f_Src, v16 s1.f_Dst, v32 s1.f_Seq, v32 s1.f_Ack, v8 s1.f_Flags, v16 s1.f_Window, v16 s1.f_Urgent, Value.string s1.f_Options, v8 s1.f_Type, v8 s1.f_Code, Value.string s1.f_Data]] ∧ F_ref07_Put_j1 s1 nv60 = some r) ?_ ?_
 ·refine KC.cut (fun a w58 => ∃ (t57 : Bool), Kn 47 [(3, .pointer (some ⟨g5, 0, none⟩)), (10, v16 y52), (42, vB t57)] a ∧ Mem w [] w58 [.box g5 30 [v8 s1.f_Proto, v16 s1.f_Src, v16 s1.f_Dst, v32 s1.f_Seq, v32 s1.f_Ack, v8 s1.f_Flags, v16 s1.f_Window, v16 s1.f_Urgent, Value.string s1.f_Options, v8 s1.f_Type, v8 s1.f_Code, Value.string s1.f_Data]] ∧ F_ref07_Put_j2 s1 y52 t57 = some r) ?_ ?_
  ·refine KC.region ?_
   refine vm rfl rfl ?_
   refine RL.val (O.eql rfl rfl) rfl ?_
   refine vm rfl rfl ?_
   refine RL.bcase (t := 38) rfl (fun hc => ?_) (fun hc => ?_)
   ·rw [if_pos hc] at hF
    refine RL.gval rfl rfl (O.fldA fl30_0 (by decide) rfl) rfl ?_
    refine RL.gval rfl rfl (O.load sc5 rfl (Cs.adds [0] ((hM.bx (i := 0) rfl)) rfl)) rfl ?_
    refine RL.gval rfl rfl (O.eql rfl rfl) rfl ?_
    refine RL.val (O.pickt rfl rfl) rfl ?_
    refine RL.nil ?_
    refine KQ.then_k ?_
    replace hM := hM.pick [0] rfl (by decide)
    exact fun a ha => ⟨(s1.f_Proto == 17), ha.less (less_cons rfl (less_cons rfl (less_cons rfl less_nil))), hM, hF⟩
   rw [if_neg (ne_true hc)] at hF
   refine RL.brun1 4 42 false (by kernel_rfl) ?_
   refine RL.nil ?_
   refine KQ.then_k ?_
   replace hM := hM.pick [0] rfl (by decide)
   exact fun a ha => ⟨false, ha.less (less_cons rfl (less_cons rfl (less_cons rfl less_nil))), hM, hF⟩
  rintro a w58 ⟨t57, ha, hM, hF⟩
  refine KC.app ha ?_
  clear ha
  unfold F_ref07_Put_j2 at hF
  refine KC.cond rfl (fun hc => ?_) (fun hc => ?_)
  ·rw [if_pos hc] at hF
   refine KC.region ?_
   refine va rfl rfl ?_
   refine RL.nil ?_
   refine KQ.then_k ?_
   exact fun a ha => ⟨65535, ha.less (less_cons rfl (less_cons rfl less_nil)), hM, hF⟩
  rw [if_neg (ne_true hc)] at hF
  refine KC.skip ?_
  refine KQ.then_k ?_
  exact fun a ha => ⟨y52, ha.less (less_cons rfl (less_cons rfl less_nil)), hM, hF⟩
 rintro a w61 ⟨nv60, ha, hM, hF⟩
 refine KC.app ha ?_
 clear ha
 unfold F_ref07_Put_j1 at hF
 refine sr fun Q62 hQ62 => ?_
 refine RL.val (O.loadN (cs := [v8 s1.f_Proto, v16 s1.f_Src, v16 s1.f_Dst, v32 s1.f_Seq, v32 s1.f_Ack, v8 s1.f_Flags, v16 s1.f_Window, v16 s1.f_Urgent, Value.string s1.f_Options, v8 s1.f_Type, v8 s1.f_Code, Value.string s1.f_Data]) ag30 rfl (Cs.addsN [] ((hM.bx (i := 0) rfl)) rfl)) rfl ?_
 refine vm rfl rfl ?_
 refine obindE hF fun y63 hx64 hF => ?_
 refine RL.call Try.func29 bd29 rfl rfl (c_ref07_stands _ s1 nv60 _ hx64) fun v w65 hv => ?_
 obtain ⟨rfl, hN66⟩ := hv
 replace hM := hM.call0 hN66
 refine cut_someE hF fun hq70 hF => ?_
 refine RL.eff (E.s2b hM Try.underlying9 sl24 Try.underlying5 rfl (of_decide_eq_true hq70)) rfl fun v w69 hv => ?_
 clear hM
 obtain ⟨A67, c68, Z71, rfl, hM, hf⟩ := hv
 refine va rfl rfl ?_
 refine va rfl rfl ?_
 refine nt hQ62 ?_
 clear hQ62 Q62
 refine KC.ret ?_
 have hE := Option.some.inj hF
 clear hF
 subst hE
 replace hM := hM.pick [1] rfl (by decide)
 refine KQ.rets Try.results10 (RVs.cons (RV.tm rfl) (RVs.cons (RV.tm rfl) RVs.nil)) ?_
 exact ⟨_, rfl, A67, c68, Z71, rfl, hM⟩
set_option maxRecDepth 100000 in
set_option maxHeartbeats 40000000 in
theorem c_ref07_Flags (w : World) (f1 : Int) (r : ByteArray) (hF : F_ref07_Flags f1 = some r) :
  CallsR Try.prog 17 [v8 f1] w (fun v w' => v = Value.string r ∧ Mem w [] w' []) := by
 refine calls_KC Try.func17 rfl Try.ntmps17 rfl ?_
 have hM := Mem.init w
 unfold F_ref07_Flags at hF
 refine sr fun Q2 hQ2 => ?_
 refine va rfl rfl ?_
 refine nt hQ2 ?_
 clear hQ2 Q2
 refine sr fun Q3 hQ3 => ?_
 refine va rfl rfl ?_
 refine nt hQ3 ?_
 clear hQ3 Q3
 refine KC.seqH fun Q4 hQ4 => ?_
 refine sr fun Q5 hQ5 => ?_
 refine va rfl rfl ?_
 refine nt hQ5 ?_
 clear hQ5 Q5
 refine KC.block ?_
 refine KC.loop (fun k32 a w30 => ∃ (f27 : Int) (s28 : ByteArray) (i29 : Int), Kn 21 [(0, v8 f27), (3, Value.string s28), (4, vI i29)] a ∧ Mem w [] w30 [] ∧ F_ref07_Flags_L1 k32 f27 s28 i29 = some r) ?_ ?_
 ·exact fun a ha => ⟨fuel0, f1, (⟨#[]⟩ : ByteArray), 0, ha.less (less_cons rfl (less_cons rfl (less_cons rfl less_nil))), hM, hF⟩
 rintro k32 a w30 ⟨f27, s28, i29, ha, hM, hF⟩
 refine KC.app ha ?_
 clear ha
 cases k32 with
 | zero => exact (none_some hF).elim
 | succ k32 =>
 have hF : F_ref07_Flags_l1 (F_ref07_Flags_L1 k32) f27 s28 i29 = some r := hF
 unfold F_ref07_Flags_l1 at hF
 refine KC.seqH fun Q33 hQ33 => ?_
 refine sr fun Q34 hQ34 => ?_
 refine vm rfl rfl ?_
 refine RL.val (O.lss rfl rfl) rfl ?_
 refine nt hQ34 ?_
 clear hQ34 Q34
 refine KC.cond rfl (fun hc => ?_) (fun hc => ?_)
 ·rw [if_pos hc] at hF
  refine KC.skip ?_
  refine KQ.thn hQ33 ?_
  clear hQ33 Q33
  refine KC.seqH fun Q35 hQ35 => ?_
  refine KC.block ?_
  refine KC.cut (fun a w41 => ∃ (s40 : ByteArray), Kn 21 [(0, v8 f27), (3, Value.string s40), (4, vI i29)] a ∧ Mem w [] w41 [] ∧ F_ref07_Flags_j1 f27 i29 (F_ref07_Flags_L1 k32) s40 = some r) ?_ ?_
  ·refine sr fun Q36 hQ36 => ?_
   refine vm rfl rfl ?_
   refine RL.val (O.rem rfl rfl (by decide)) rfl ?_
   refine RL.val (O.eql rfl rfl) rfl ?_
   refine nt hQ36 ?_
   clear hQ36 Q36
   refine KC.cond rfl (fun hc => ?_) (fun hc => ?_)
   ·rw [if_pos hc] at hF
    refine KC.region ?_
    refine vm rfl rfl ?_
    refine vm rfl rfl ?_
    refine vm rfl rfl ?_
    refine RL.val (O.add rfl rfl) rfl ?_
    refine obindE hF fun cut37 hy38 hF => ?_
    refine RL.val (O.cutS Try.underlying9 hy38 rfl rfl rfl) rfl ?_
    refine cut_someE hF fun hq39 hF => ?_
    refine RL.val (O.addS (of_decide_eq_true hq39) rfl rfl) rfl ?_
    refine va rfl rfl ?_
    refine RL.nil ?_
    refine KQ.then_k ?_
    exact fun a ha => ⟨(s28 ++ cut37), ha.less (less_cons rfl (less_cons rfl (less_cons rfl less_nil))), hM, hF⟩
   rw [if_neg (ne_true hc)] at hF
   refine KC.skip ?_
   refine KQ.then_k ?_
   exact fun a ha => ⟨s28, ha.less (less_cons rfl (less_cons rfl (less_cons rfl less_nil))), hM, hF⟩
  rintro a w41 ⟨s40, ha, hM, hF⟩
  refine KC.app ha ?_
  clear ha
  unfold F_ref07_Flags_j1 at hF
  refine KC.region ?_
  refine vm rfl rfl ?_
  refine RL.val (O.quo rfl rfl (by decide)) rfl ?_
  refine va rfl rfl ?_
  refine RL.nil ?_
  refine KQ.blk_n ?_
  refine KQ.thn hQ35 ?_
  clear hQ35 Q35
  refine KC.region ?_
  refine vm rfl rfl ?_
  refine RL.val (O.add rfl rfl) rfl ?_
  refine va rfl rfl ?_
  refine RL.nil ?_
  refine KQ.then_k ?_
  exact fun a ha => ⟨k32, Nat.lt_succ_self k32, (IntKind.u8.wrap (Int.tdiv f27 2)), s40, (IntKind.i64.wrap (i29 + 1)), ha.less (less_cons rfl (less_cons rfl (less_cons rfl less_nil))), hM, hF⟩
 rw [if_neg (ne_true hc)] at hF
 refine KC.exit ?_
 refine KQ.thx hQ33 ?_
 clear hQ33 Q33
 refine KQ.then_x ?_
 refine KQ.blk_x ?_
 refine KQ.thn hQ4 ?_
 clear hQ4 Q4
 refine sr fun Q42 hQ42 => ?_
 refine vm rfl rfl ?_
 refine va rfl rfl ?_
 refine nt hQ42 ?_
 clear hQ42 Q42
 refine KC.ret ?_
 have hE := Option.some.inj hF
 clear hF
 subst hE
 refine KQ.rets Try.results17 (RVs.cons (RV.tm rfl) RVs.nil) ?_
 exact ⟨_, rfl, rfl, hM⟩
end Go.Proofs.Ytcinagdkkclapaa
