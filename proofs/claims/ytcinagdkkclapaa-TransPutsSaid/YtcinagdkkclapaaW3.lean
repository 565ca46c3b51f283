/- Printed by a program of this claim: each call returns what the plain function of its name gives. -/
import Derived.Test.YtcinagdkkclapaaW1
import Derived.Test.YtcinagdkkclapaaW2
set_option linter.unusedVariables false
namespace Go.Proofs.Ytcinagdkkclapaa
open Go Go.Ox Go.RowKit
set_option maxRecDepth 100000 in
set_option maxHeartbeats 40000000 in
theorem c_trans_Right (w : World) (s1 : T_trans_Segment) (A2 : Option Addr) (c3 : Nat) (hr4 : Rd w A2 c3 1 s1.f_Options.length (s1.f_Options.flatMap (eI .u8))) (A5 : Option Addr) (c6 : Nat) (hr7 : Rd w A5 c6 1 s1.f_Data.length (s1.f_Data.flatMap (eI .u8))) (r : Bool) (hF : F_trans_Right s1 = some r) :
  CallsR Try.prog 13 [.agg #[v8 s1.f_Proto, v16 s1.f_Src, v16 s1.f_Dst, v32 s1.f_Seq, v32 s1.f_Ack, v8 s1.f_Flags, v16 s1.f_Window, v16 s1.f_Urgent, .slice A2 (s1.f_Options).length c3, v8 s1.f_Type, v8 s1.f_Code, .slice A5 (s1.f_Data).length c6]] w (fun v w' => v = vB r ∧ Mem w [] w' []) := by
 refine calls_KC Try.func13 rfl Try.ntmps13 rfl ?_
 have hM := Mem.init w
 unfold F_trans_Right at hF
 refine sr fun Q8 hQ8 => ?_
 refine RL.eff (E.box (vs := [v8 s1.f_Proto, v16 s1.f_Src, v16 s1.f_Dst, v32 s1.f_Seq, v32 s1.f_Ack, v8 s1.f_Flags, v16 s1.f_Window, v16 s1.f_Urgent, .slice A2 (s1.f_Options).length c3, v8 s1.f_Type, v8 s1.f_Code, .slice A5 (s1.f_Data).length c6]) hM rfl rfl) rfl fun v w10 hv => ?_
 clear hM
 obtain ⟨g9, rfl, hM, hf⟩ := hv
 refine va rfl rfl ?_
 refine nt hQ8 ?_
 clear hQ8 Q8
 refine KC.seqH fun Q12 hQ12 => ?_
 replace hM := hM.drewN 1
 refine KC.draw [] [8] [0, 7, 8] [1, 4, 5, 6, 9] (.cons 1 (.cons 2 (.alt 0 (.ofList [3, 4, 5, 6, 7, 8, 9]) 7 (.ofList [0, 3, 4, 5, 6, 8, 9])))) moP (by kernel_rfl) ?_
 refine RD.p rfl rfl rfl rfl (fun w' => O.fldA fl26_0 (by decide) rfl) ?_
 refine RD.q rfl rfl rfl rfl (fun w' hf => O.load sc5 rfl (Cs.adds [0] ((hM.bx (i := 0) rfl).fut hf) rfl)) ?_
 refine RD.alt ?_ ?_
 ·refine obindE hF fun y13 hx14 hF => ?_
  refine RD.mcall rfl rfl trivial Try.func30 bd30 rfl rfl (c_trans_protocols _ _ hx14) fun v w15 hv => ?_
  obtain ⟨g17, rfl, hN16⟩ := hv
  refine ⟨fun _ => hN16.fut, ?_⟩
  replace hM := hM.call hN16
  by_cases hk19 : (s1.f_Proto == 6) = true
  ·rw [if_pos hk19] at hF
   refine RD.q rfl rfl rfl rfl (fun w' hf => O.lkT ((hM.mapAt (i := 1) rfl).fut hf) Try.underlying64 Try.underlying5 rfl rfl (lk_hit hk19)) ?_
   refine RD.p rfl rfl rfl rfl (fun w' => O.move rfl) ?_
   refine RD.p rfl rfl rfl rfl (fun w' => O.ext rfl rfl) ?_
   refine RD.p rfl rfl rfl rfl (fun w' => O.ext rfl rfl) ?_
   refine RD.meff rfl rfl (E.alloc hM ze62) rfl fun v w21 hv => ?_
   clear hM
   obtain ⟨g20, rfl, hM, hf⟩ := hv
   refine ⟨fun _ => hf, ?_⟩
   refine RD.meffs rfl rfl rfl (E.stB (j := 2) (off := 0) (vs := [vI 20, vI 16, .func (.func 49) #[] #[], .func (.func 50) #[] #[], .func (.func 51) #[] #[]]) (cs' := [vI 20, vI 16, .func (.func 49) #[] #[], .func (.func 50) #[] #[], .func (.func 51) #[] #[]]) hM rfl sz62 rfl (adds_eq [] rfl) rfl rfl (One.all rfl) rfl rfl) fun w23 hM1 => ?_
   clear hM
   have hM := hM1
   clear hM1
   refine RD.p rfl rfl rfl rfl (fun w' => O.assign rfl) ?_
   refine RD.nil ?_
   refine KQ.thn hQ12 ?_
   clear hQ12 Q12
   refine KC.seqH fun Q24 hQ24 => ?_
   refine sr fun Q25 hQ25 => ?_
   refine vm rfl rfl ?_
   refine RL.val (O.not rfl) rfl ?_
   refine nt hQ25 ?_
   clear hQ25 Q25
   refine KC.condF rfl ?_
   refine KC.skip ?_
   refine KQ.thn hQ24 ?_
   clear hQ24 Q24
   refine sr fun Q26 hQ26 => ?_
   refine RL.val (O.fldA fl62_2 (by decide) rfl) rfl ?_
   refine RL.val (O.load sc58 rfl (Cs.adds [2] ((hM.bx (i := 2) rfl)) rfl)) rfl ?_
   refine RL.val (O.loadN (cs := [v8 s1.f_Proto, v16 s1.f_Src, v16 s1.f_Dst, v32 s1.f_Seq, v32 s1.f_Ack, v8 s1.f_Flags, v16 s1.f_Window, v16 s1.f_Urgent, .slice A2 (s1.f_Options).length c3, v8 s1.f_Type, v8 s1.f_Code, .slice A5 (s1.f_Data).length c6]) ag26 rfl (Cs.addsN [] ((hM.bx (i := 0) rfl)) rfl)) rfl ?_
   refine RL.icallv (first := []) (captured := []) rfl Try.func49 bd49 rfl rfl rfl Try.ntmps49 rfl ?_
   refine sr fun Q27 hQ27 => ?_
   refine RL.eff (E.box (vs := [v8 s1.f_Proto, v16 s1.f_Src, v16 s1.f_Dst, v32 s1.f_Seq, v32 s1.f_Ack, v8 s1.f_Flags, v16 s1.f_Window, v16 s1.f_Urgent, .slice A2 (s1.f_Options).length c3, v8 s1.f_Type, v8 s1.f_Code, .slice A5 (s1.f_Data).length c6]) hM rfl rfl) rfl fun v w29 hv => ?_
   clear hM
   obtain ⟨g28, rfl, hM, hf⟩ := hv
   refine RL.eff (E.alloc hM ze26) rfl fun v w32 hv => ?_
   clear hM
   obtain ⟨g31, rfl, hM, hf⟩ := hv
   refine nt hQ27 ?_
   clear hQ27 Q27
   replace hM := hM.pick [0, 2, 3, 4] rfl (by decide)
   refine sr fun Q34 hQ34 => ?_
   refine RL.val (O.fldA fl26_9 (by decide) rfl) rfl ?_
   refine RL.effs (E.stB (j := 2) (off := 9) (vs := [v8 0]) (cs' := [v8 s1.f_Proto, v16 s1.f_Src, v16 s1.f_Dst, v32 s1.f_Seq, v32 s1.f_Ack, v8 s1.f_Flags, v16 s1.f_Window, v16 s1.f_Urgent, .slice A2 (s1.f_Options).length c3, v8 0, v8 s1.f_Code, .slice A5 (s1.f_Data).length c6]) hM rfl sz5 rfl (adds_eq [9] rfl) rfl rfl (One.all rfl) rfl rfl) fun w35 hM1 => ?_
   clear hM
   have hM := hM1
   clear hM1
   refine RL.val (O.fldA fl26_10 (by decide) rfl) rfl ?_
   refine RL.effs (E.stB (j := 2) (off := 10) (vs := [v8 0]) (cs' := [v8 s1.f_Proto, v16 s1.f_Src, v16 s1.f_Dst, v32 s1.f_Seq, v32 s1.f_Ack, v8 s1.f_Flags, v16 s1.f_Window, v16 s1.f_Urgent, .slice A2 (s1.f_Options).length c3, v8 0, v8 0, .slice A5 (s1.f_Data).length c6]) hM rfl sz5 rfl (adds_eq [10] rfl) rfl rfl (One.all rfl) rfl rfl) fun w36 hM1 => ?_
   clear hM
   have hM := hM1
   clear hM1
   refine nt hQ34 ?_
   clear hQ34 Q34
   refine sr fun Q37 hQ37 => ?_
   refine RL.val (O.loadN (cs := [v8 s1.f_Proto, v16 s1.f_Src, v16 s1.f_Dst, v32 s1.f_Seq, v32 s1.f_Ack, v8 s1.f_Flags, v16 s1.f_Window, v16 s1.f_Urgent, .slice A2 (s1.f_Options).length c3, v8 0, v8 0, .slice A5 (s1.f_Data).length c6]) ag26 rfl (Cs.addsN [] ((hM.bx (i := 2) rfl)) rfl)) rfl ?_
   refine RL.effs (E.stB (j := 3) (off := 0) (vs := [v8 s1.f_Proto, v16 s1.f_Src, v16 s1.f_Dst, v32 s1.f_Seq, v32 s1.f_Ack, v8 s1.f_Flags, v16 s1.f_Window, v16 s1.f_Urgent, .slice A2 (s1.f_Options).length c3, v8 0, v8 0, .slice A5 (s1.f_Data).length c6]) (cs' := [v8 s1.f_Proto, v16 s1.f_Src, v16 s1.f_Dst, v32 s1.f_Seq, v32 s1.f_Ack, v8 s1.f_Flags, v16 s1.f_Window, v16 s1.f_Urgent, .slice A2 (s1.f_Options).length c3, v8 0, v8 0, .slice A5 (s1.f_Data).length c6]) hM rfl sz26 rfl (adds_eq [] rfl) rfl rfl (One.all rfl) rfl rfl) fun w38 hM1 => ?_
   clear hM
   have hM := hM1
   clear hM1
   refine nt hQ37 ?_
   clear hQ37 Q37
   refine KC.ret ?_
   have hb39 := hM.bx (i := 3) rfl
   refine KQ.rets Try.results49 (RVs.cons (RV.cN (cs := [v8 s1.f_Proto, v16 s1.f_Src, v16 s1.f_Dst, v32 s1.f_Seq, v32 s1.f_Ack, v8 s1.f_Flags, v16 s1.f_Window, v16 s1.f_Urgent, .slice A2 (s1.f_Options).length c3, v8 0, v8 0, .slice A5 (s1.f_Data).length c6]) rfl ag26 hb39) RVs.nil) ?_
   refine ⟨.agg #[v8 s1.f_Proto, v16 s1.f_Src, v16 s1.f_Dst, v32 s1.f_Seq, v32 s1.f_Ack, v8 s1.f_Flags, v16 s1.f_Window, v16 s1.f_Urgent, .slice A2 (s1.f_Options).length c3, v8 0, v8 0, .slice A5 (s1.f_Data).length c6], rfl, ?_⟩
   refine RL.eff (E.alloc hM ze26) rfl fun v w41 hv => ?_
   clear hM
   obtain ⟨g40, rfl, hM, hf⟩ := hv
   refine RL.effs (E.stB (j := 4) (off := 0) (vs := [v8 s1.f_Proto, v16 s1.f_Src, v16 s1.f_Dst, v32 s1.f_Seq, v32 s1.f_Ack, v8 s1.f_Flags, v16 s1.f_Window, v16 s1.f_Urgent, .slice A2 (s1.f_Options).length c3, v8 0, v8 0, .slice A5 (s1.f_Data).length c6]) (cs' := [v8 s1.f_Proto, v16 s1.f_Src, v16 s1.f_Dst, v32 s1.f_Seq, v32 s1.f_Ack, v8 s1.f_Flags, v16 s1.f_Window, v16 s1.f_Urgent, .slice A2 (s1.f_Options).length c3, v8 0, v8 0, .slice A5 (s1.f_Data).length c6]) hM rfl sz26 rfl (adds_eq [] rfl) rfl rfl (One.all rfl) rfl rfl) fun w43 hM1 => ?_
   clear hM
   have hM := hM1
   clear hM1
   refine nt hQ26 ?_
   clear hQ26 Q26
   replace hM := hM.pick [0, 1, 4] rfl (by decide)
   refine KC.cut (fun a w51 => Kn 47 [(1, .pointer (some ⟨g9, 0, none⟩)), (3, .pointer (some ⟨g20, 0, none⟩)), (5, .pointer (some ⟨g40, 0, none⟩))] a ∧ Mem w [] w51 [.box g9 26 [v8 s1.f_Proto, v16 s1.f_Src, v16 s1.f_Dst, v32 s1.f_Seq, v32 s1.f_Ack, v8 s1.f_Flags, v16 s1.f_Window, v16 s1.f_Urgent, .slice A2 (s1.f_Options).length c3, v8 s1.f_Type, v8 s1.f_Code, .slice A5 (s1.f_Data).length c6], .box g20 62 [vI 20, vI 16, .func (.func 49) #[] #[], .func (.func 50) #[] #[], .func (.func 51) #[] #[]], .box g40 26 [v8 s1.f_Proto, v16 s1.f_Src, v16 s1.f_Dst, v32 s1.f_Seq, v32 s1.f_Ack, v8 s1.f_Flags, v16 s1.f_Window, v16 s1.f_Urgent, .slice A2 (s1.f_Options).length c3, v8 0, v8 0, .slice A5 (s1.f_Data).length c6]] ∧ F_trans_Right_j1 s1 = some r) ?_ ?_
   ·replace hM := hM.drewN 1
    refine KC.draw [] [5, 7] [3, 5, 7] [0, 2, 4, 6] (.cons 0 (.cons 1 (.cons 2 (.cons 4 (.alt 3 (.ofList [5, 6, 7]) 5 (.ofList [3, 6, 7])))))) moP (by kernel_rfl) ?_
    refine RD.p rfl rfl rfl rfl (fun w' => O.fldA fl26_0 (by decide) rfl) ?_
    refine RD.q rfl rfl rfl rfl (fun w' hf => O.load sc5 rfl (Cs.adds [0] ((hM.bx (i := 0) rfl).fut hf) rfl)) ?_
    refine RD.p rfl rfl rfl rfl (fun w' => O.fldA fl26_11 (by decide) rfl) ?_
    refine RD.p rfl rfl rfl rfl (fun w' => O.fldA fl26_0 (by decide) rfl) ?_
    refine RD.alt ?_ ?_
    ·refine RD.mq rfl rfl (O.load sc24 rfl (Cs.adds [11] ((hM.bx (i := 0) rfl)) rfl)) rfl ?_
     refine RD.meffs rfl rfl rfl (E.stB (j := 2) (off := 0) (vs := [v8 s1.f_Proto]) (cs' := [v8 s1.f_Proto, v16 s1.f_Src, v16 s1.f_Dst, v32 s1.f_Seq, v32 s1.f_Ack, v8 s1.f_Flags, v16 s1.f_Window, v16 s1.f_Urgent, .slice A2 (s1.f_Options).length c3, v8 0, v8 0, .slice A5 (s1.f_Data).length c6]) hM rfl sz5 rfl (adds_eq [0] rfl) rfl rfl (One.all rfl) rfl rfl) fun w44 hM1 => ?_
     clear hM
     have hM := hM1
     clear hM1
     refine RD.p rfl rfl rfl rfl (fun w' => O.fldA fl26_11 (by decide) rfl) ?_
     refine RD.meffs rfl rfl rfl (E.stB (j := 2) (off := 11) (vs := [.slice A5 (s1.f_Data).length c6]) (cs' := [v8 s1.f_Proto, v16 s1.f_Src, v16 s1.f_Dst, v32 s1.f_Seq, v32 s1.f_Ack, v8 s1.f_Flags, v16 s1.f_Window, v16 s1.f_Urgent, .slice A2 (s1.f_Options).length c3, v8 0, v8 0, .slice A5 (s1.f_Data).length c6]) hM rfl sz24 rfl (adds_eq [11] rfl) rfl rfl (One.all rfl) rfl rfl) fun w45 hM1 => ?_
     clear hM
     have hM := hM1
     clear hM1
     refine RD.nil ?_
     refine KQ.then_k ?_
     exact fun a ha => ⟨ha.less (less_cons rfl (less_cons rfl (less_cons rfl less_nil))), hM, hF⟩
    refine RD.meffs rfl rfl rfl (E.stB (j := 2) (off := 0) (vs := [v8 s1.f_Proto]) (cs' := [v8 s1.f_Proto, v16 s1.f_Src, v16 s1.f_Dst, v32 s1.f_Seq, v32 s1.f_Ack, v8 s1.f_Flags, v16 s1.f_Window, v16 s1.f_Urgent, .slice A2 (s1.f_Options).length c3, v8 0, v8 0, .slice A5 (s1.f_Data).length c6]) hM rfl sz5 rfl (adds_eq [0] rfl) rfl rfl (One.all rfl) rfl rfl) fun w46 hM1 => ?_
    clear hM
    have hM := hM1
    clear hM1
    refine RD.mq rfl rfl (O.load sc24 rfl (Cs.adds [11] ((hM.bx (i := 0) rfl)) rfl)) rfl ?_
    refine RD.p rfl rfl rfl rfl (fun w' => O.fldA fl26_11 (by decide) rfl) ?_
    refine RD.meffs rfl rfl rfl (E.stB (j := 2) (off := 11) (vs := [.slice A5 (s1.f_Data).length c6]) (cs' := [v8 s1.f_Proto, v16 s1.f_Src, v16 s1.f_Dst, v32 s1.f_Seq, v32 s1.f_Ack, v8 s1.f_Flags, v16 s1.f_Window, v16 s1.f_Urgent, .slice A2 (s1.f_Options).length c3, v8 0, v8 0, .slice A5 (s1.f_Data).length c6]) hM rfl sz24 rfl (adds_eq [11] rfl) rfl rfl (One.all rfl) rfl rfl) fun w47 hM1 => ?_
    clear hM
    have hM := hM1
    clear hM1
    refine RD.nil ?_
    refine KQ.then_k ?_
    exact fun a ha => ⟨ha.less (less_cons rfl (less_cons rfl (less_cons rfl less_nil))), hM, hF⟩
   rintro a w51 ⟨ha, hM, hF⟩
   refine KC.app ha ?_
   clear ha
   unfold F_trans_Right_j1 at hF
   refine KC.cut (fun a w65 => ∃ (t64 : Bool), Kn 47 [(2, vB t64)] a ∧ Mem w [] w65 [] ∧ F_trans_Right_j2 t64 = some r) ?_ ?_
   ·refine KC.region ?_
    refine RL.val (O.loadN (cs := [v8 s1.f_Proto, v16 s1.f_Src, v16 s1.f_Dst, v32 s1.f_Seq, v32 s1.f_Ack, v8 s1.f_Flags, v16 s1.f_Window, v16 s1.f_Urgent, .slice A2 (s1.f_Options).length c3, v8 s1.f_Type, v8 s1.f_Code, .slice A5 (s1.f_Data).length c6]) ag26 rfl (Cs.addsN [] ((hM.bx (i := 0) rfl)) rfl)) rfl ?_
    refine RL.val (O.loadN (cs := [v8 s1.f_Proto, v16 s1.f_Src, v16 s1.f_Dst, v32 s1.f_Seq, v32 s1.f_Ack, v8 s1.f_Flags, v16 s1.f_Window, v16 s1.f_Urgent, .slice A2 (s1.f_Options).length c3, v8 0, v8 0, .slice A5 (s1.f_Data).length c6]) ag26 rfl (Cs.addsN [] ((hM.bx (i := 2) rfl)) rfl)) rfl ?_
    refine obindE hF fun y52 hx53 hF => ?_
    refine RL.call Try.func15 bd15 rfl rfl (c_trans_Same _ s1 _ _ (hM.inp hr4 Off.nil) _ _ (hM.inp hr7 Off.nil) (T_trans_Segment.mk s1.f_Proto s1.f_Src s1.f_Dst s1.f_Seq s1.f_Ack s1.f_Flags s1.f_Window s1.f_Urgent s1.f_Options 0 0 s1.f_Data) _ _ (hM.inp hr4 Off.nil) _ _ (hM.inp hr7 Off.nil) _ hx53) fun v w54 hv => ?_
    obtain ⟨rfl, hN55⟩ := hv
    replace hM := hM.call0 hN55
    refine vm rfl rfl ?_
    refine RL.bcase (t := 28) rfl (fun hc => ?_) (fun hc => ?_)
    ·rw [if_pos hc] at hF
     refine RL.gval rfl rfl (O.fldA fl26_8 (by decide) rfl) rfl ?_
     refine RL.gval rfl rfl (O.load sc24 rfl (Cs.adds [8] ((hM.bx (i := 0) rfl)) rfl)) rfl ?_
     refine RL.gval rfl rfl (O.len sl24 rfl) rfl ?_
     refine RL.gval rfl rfl (O.rem rfl rfl (by decide)) rfl ?_
     refine RL.gval rfl rfl (O.eql rfl rfl) rfl ?_
     refine RL.val (O.pickt rfl rfl) rfl ?_
     refine vm rfl rfl ?_
     refine RL.bcase (t := 35) rfl (fun hc => ?_) (fun hc => ?_)
     ·rw [if_pos hc] at hF
      refine RL.gval rfl rfl (O.fldA fl26_8 (by decide) rfl) rfl ?_
      refine RL.gval rfl rfl (O.load sc24 rfl (Cs.adds [8] ((hM.bx (i := 0) rfl)) rfl)) rfl ?_
      refine RL.gval rfl rfl (O.len sl24 rfl) rfl ?_
      refine RL.gval rfl rfl (O.leq rfl rfl) rfl ?_
      refine RL.val (O.pickt rfl rfl) rfl ?_
      refine vm rfl rfl ?_
      refine RL.bcase (t := 41) rfl (fun hc => ?_) (fun hc => ?_)
      ·rw [if_pos hc] at hF
       refine RL.gval rfl rfl (O.loadN (cs := [vI 20, vI 16, .func (.func 49) #[] #[], .func (.func 50) #[] #[], .func (.func 51) #[] #[]]) ag62 rfl (Cs.addsN [] ((hM.bx (i := 1) rfl)) rfl)) rfl ?_
       refine RL.gval rfl rfl (O.loadN (cs := [v8 s1.f_Proto, v16 s1.f_Src, v16 s1.f_Dst, v32 s1.f_Seq, v32 s1.f_Ack, v8 s1.f_Flags, v16 s1.f_Window, v16 s1.f_Urgent, .slice A2 (s1.f_Options).length c3, v8 s1.f_Type, v8 s1.f_Code, .slice A5 (s1.f_Data).length c6]) ag26 rfl (Cs.addsN [] ((hM.bx (i := 0) rfl)) rfl)) rfl ?_
       refine RL.gicall rfl rfl Try.func32 bd32 rfl rfl rfl Try.ntmps32 rfl ?_
       refine sr fun Q56 hQ56 => ?_
       refine RL.eff (E.box (vs := [vI 20, vI 16, .func (.func 49) #[] #[], .func (.func 50) #[] #[], .func (.func 51) #[] #[]]) hM rfl rfl) rfl fun v w58 hv => ?_
       clear hM
       obtain ⟨g57, rfl, hM, hf⟩ := hv
       refine RL.eff (E.box (vs := [v8 s1.f_Proto, v16 s1.f_Src, v16 s1.f_Dst, v32 s1.f_Seq, v32 s1.f_Ack, v8 s1.f_Flags, v16 s1.f_Window, v16 s1.f_Urgent, .slice A2 (s1.f_Options).length c3, v8 s1.f_Type, v8 s1.f_Code, .slice A5 (s1.f_Data).length c6]) hM rfl rfl) rfl fun v w61 hv => ?_
       clear hM
       obtain ⟨g60, rfl, hM, hf⟩ := hv
       refine va rfl rfl ?_
       refine nt hQ56 ?_
       clear hQ56 Q56
       refine sr fun Q63 hQ63 => ?_
       refine RL.val (O.fldA fl62_0 (by decide) rfl) rfl ?_
       refine RL.val (O.load sc3 rfl (Cs.adds [0] ((hM.bx (i := 3) rfl)) rfl)) rfl ?_
       refine RL.val (O.fldA fl26_8 (by decide) rfl) rfl ?_
       refine RL.val (O.load sc24 rfl (Cs.adds [8] ((hM.bx (i := 4) rfl)) rfl)) rfl ?_
       refine RL.val (O.len sl24 rfl) rfl ?_
       refine RL.val (O.add rfl rfl) rfl ?_
       refine RL.val (O.fldA fl26_11 (by decide) rfl) rfl ?_
       refine RL.val (O.load sc24 rfl (Cs.adds [11] ((hM.bx (i := 4) rfl)) rfl)) rfl ?_
       refine RL.val (O.len sl24 rfl) rfl ?_
       refine RL.val (O.add rfl rfl) rfl ?_
       refine va rfl rfl ?_
       refine nt hQ63 ?_
       clear hQ63 Q63
       refine KC.ret ?_
       refine KQ.rets Try.results32 (RVs.cons (RV.tm rfl) RVs.nil) ?_
       refine ⟨.int .i64 (IntKind.i64.wrap ((IntKind.i64.wrap (20 + (s1.f_Options.length : Int))) + (s1.f_Data.length : Int))), rfl, ?_⟩
       refine RL.gval rfl rfl (O.leq rfl rfl) rfl ?_
       refine RL.val (O.pickt rfl rfl) rfl ?_
       refine va rfl rfl ?_
       refine RL.nil ?_
       refine KQ.then_k ?_
       replace hM := hM.pick [] rfl (by decide)
       exact fun a ha => ⟨(decide ((IntKind.i64.wrap ((IntKind.i64.wrap (20 + (s1.f_Options.length : Int))) + (s1.f_Data.length : Int))) ≤ 65535)), ha.less (less_cons rfl less_nil), hM, hF⟩
      rw [if_neg (ne_true hc)] at hF
      refine RL.brun1 5 46 false (by kernel_rfl) ?_
      refine va rfl rfl ?_
      refine RL.nil ?_
      refine KQ.then_k ?_
      replace hM := hM.pick [] rfl (by decide)
      exact fun a ha => ⟨false, ha.less (less_cons rfl less_nil), hM, hF⟩
     rw [if_neg (ne_true hc)] at hF
     refine RL.brun1 11 46 false (by kernel_rfl) ?_
     refine va rfl rfl ?_
     refine RL.nil ?_
     refine KQ.then_k ?_
     replace hM := hM.pick [] rfl (by decide)
     exact fun a ha => ⟨false, ha.less (less_cons rfl less_nil), hM, hF⟩
    rw [if_neg (ne_true hc)] at hF
    refine RL.brun1 18 46 false (by kernel_rfl) ?_
    refine va rfl rfl ?_
    refine RL.nil ?_
    refine KQ.then_k ?_
    replace hM := hM.pick [] rfl (by decide)
    exact fun a ha => ⟨false, ha.less (less_cons rfl less_nil), hM, hF⟩
   rintro a w65 ⟨t64, ha, hM, hF⟩
   refine KC.app ha ?_
   clear ha
   unfold F_trans_Right_j2 at hF
   refine KC.ret ?_
   have hE := Option.some.inj hF
   clear hF
   subst hE
   refine KQ.rets Try.results13 (RVs.cons (RV.tm rfl) RVs.nil) ?_
   exact ⟨_, rfl, rfl, hM⟩
  rw [if_neg hk19] at hF
  by_cases hk66 : (s1.f_Proto == 17) = true
  ·rw [if_pos hk66] at hF
   refine RD.q rfl rfl rfl rfl (fun w' hf => O.lkT ((hM.mapAt (i := 1) rfl).fut hf) Try.underlying64 Try.underlying5 rfl rfl (lk_miss hk19 (lk_hit hk66))) ?_
   refine RD.p rfl rfl rfl rfl (fun w' => O.move rfl) ?_
   refine RD.p rfl rfl rfl rfl (fun w' => O.ext rfl rfl) ?_
   refine RD.p rfl rfl rfl rfl (fun w' => O.ext rfl rfl) ?_
   refine RD.meff rfl rfl (E.alloc hM ze62) rfl fun v w68 hv => ?_
   clear hM
   obtain ⟨g67, rfl, hM, hf⟩ := hv
   refine ⟨fun _ => hf, ?_⟩
   refine RD.meffs rfl rfl rfl (E.stB (j := 2) (off := 0) (vs := [vI 8, vI 6, .func (.func 52) #[] #[], .func (.func 53) #[] #[], .func (.func 54) #[] #[]]) (cs' := [vI 8, vI 6, .func (.func 52) #[] #[], .func (.func 53) #[] #[], .func (.func 54) #[] #[]]) hM rfl sz62 rfl (adds_eq [] rfl) rfl rfl (One.all rfl) rfl rfl) fun w70 hM1 => ?_
   clear hM
   have hM := hM1
   clear hM1
   refine RD.p rfl rfl rfl rfl (fun w' => O.assign rfl) ?_
   refine RD.nil ?_
   refine KQ.thn hQ12 ?_
   clear hQ12 Q12
   refine KC.seqH fun Q71 hQ71 => ?_
   refine sr fun Q72 hQ72 => ?_
   refine vm rfl rfl ?_
   refine RL.val (O.not rfl) rfl ?_
   refine nt hQ72 ?_
   clear hQ72 Q72
   refine KC.condF rfl ?_
   refine KC.skip ?_
   refine KQ.thn hQ71 ?_
   clear hQ71 Q71
   refine sr fun Q73 hQ73 => ?_
   refine RL.val (O.fldA fl62_2 (by decide) rfl) rfl ?_
   refine RL.val (O.load sc58 rfl (Cs.adds [2] ((hM.bx (i := 2) rfl)) rfl)) rfl ?_
   refine RL.val (O.loadN (cs := [v8 s1.f_Proto, v16 s1.f_Src, v16 s1.f_Dst, v32 s1.f_Seq, v32 s1.f_Ack, v8 s1.f_Flags, v16 s1.f_Window, v16 s1.f_Urgent, .slice A2 (s1.f_Options).length c3, v8 s1.f_Type, v8 s1.f_Code, .slice A5 (s1.f_Data).length c6]) ag26 rfl (Cs.addsN [] ((hM.bx (i := 0) rfl)) rfl)) rfl ?_
   refine RL.icallv (first := []) (captured := []) rfl Try.func52 bd52 rfl rfl rfl Try.ntmps52 rfl ?_
   refine sr fun Q74 hQ74 => ?_
   refine RL.eff (E.box (vs := [v8 s1.f_Proto, v16 s1.f_Src, v16 s1.f_Dst, v32 s1.f_Seq, v32 s1.f_Ack, v8 s1.f_Flags, v16 s1.f_Window, v16 s1.f_Urgent, .slice A2 (s1.f_Options).length c3, v8 s1.f_Type, v8 s1.f_Code, .slice A5 (s1.f_Data).length c6]) hM rfl rfl) rfl fun v w76 hv => ?_
   clear hM
   obtain ⟨g75, rfl, hM, hf⟩ := hv
   refine RL.eff (E.alloc hM ze26) rfl fun v w79 hv => ?_
   clear hM
   obtain ⟨g78, rfl, hM, hf⟩ := hv
   refine nt hQ74 ?_
   clear hQ74 Q74
   replace hM := hM.pick [0, 2, 3, 4] rfl (by decide)
   refine sr fun Q81 hQ81 => ?_
   refine RL.val (O.fldA fl26_1 (by decide) rfl) rfl ?_
   refine RL.val (O.load sc22 rfl (Cs.adds [1] ((hM.bx (i := 2) rfl)) rfl)) rfl ?_
   refine RL.val (O.fldA fl26_2 (by decide) rfl) rfl ?_
   refine RL.val (O.load sc22 rfl (Cs.adds [2] ((hM.bx (i := 2) rfl)) rfl)) rfl ?_
   refine RL.val (O.bld (cs := [v8 0, v16 s1.f_Src, v16 s1.f_Dst, v32 0, v32 0, v8 0, v16 0, v16 0, .slice none 0 0, v8 0, v8 0, .slice none 0 0]) bt26 rfl (by kernel_rfl)) rfl ?_
   refine RL.effs (E.stB (j := 3) (off := 0) (vs := [v8 0, v16 s1.f_Src, v16 s1.f_Dst, v32 0, v32 0, v8 0, v16 0, v16 0, .slice none 0 0, v8 0, v8 0, .slice none 0 0]) (cs' := [v8 0, v16 s1.f_Src, v16 s1.f_Dst, v32 0, v32 0, v8 0, v16 0, v16 0, .slice none 0 0, v8 0, v8 0, .slice none 0 0]) hM rfl sz26 rfl (adds_eq [] rfl) rfl rfl (One.all rfl) rfl rfl) fun w82 hM1 => ?_
   clear hM
   have hM := hM1
   clear hM1
   refine nt hQ81 ?_
   clear hQ81 Q81
   refine KC.ret ?_
   have hb83 := hM.bx (i := 3) rfl
   refine KQ.rets Try.results52 (RVs.cons (RV.cN (cs := [v8 0, v16 s1.f_Src, v16 s1.f_Dst, v32 0, v32 0, v8 0, v16 0, v16 0, .slice none 0 0, v8 0, v8 0, .slice none 0 0]) rfl ag26 hb83) RVs.nil) ?_
   refine ⟨.agg #[v8 0, v16 s1.f_Src, v16 s1.f_Dst, v32 0, v32 0, v8 0, v16 0, v16 0, .slice none 0 0, v8 0, v8 0, .slice none 0 0], rfl, ?_⟩
   refine RL.eff (E.alloc hM ze26) rfl fun v w85 hv => ?_
   clear hM
   obtain ⟨g84, rfl, hM, hf⟩ := hv
   refine RL.effs (E.stB (j := 4) (off := 0) (vs := [v8 0, v16 s1.f_Src, v16 s1.f_Dst, v32 0, v32 0, v8 0, v16 0, v16 0, .slice none 0 0, v8 0, v8 0, .slice none 0 0]) (cs' := [v8 0, v16 s1.f_Src, v16 s1.f_Dst, v32 0, v32 0, v8 0, v16 0, v16 0, .slice none 0 0, v8 0, v8 0, .slice none 0 0]) hM rfl sz26 rfl (adds_eq [] rfl) rfl rfl (One.all rfl) rfl rfl) fun w87 hM1 => ?_
   clear hM
   have hM := hM1
   clear hM1
   refine nt hQ73 ?_
   clear hQ73 Q73
   replace hM := hM.pick [0, 1, 4] rfl (by decide)
   refine KC.cut (fun a w95 => Kn 47 [(1, .pointer (some ⟨g9, 0, none⟩)), (3, .pointer (some ⟨g67, 0, none⟩)), (5, .pointer (some ⟨g84, 0, none⟩))] a ∧ Mem w [] w95 [.box g9 26 [v8 s1.f_Proto, v16 s1.f_Src, v16 s1.f_Dst, v32 s1.f_Seq, v32 s1.f_Ack, v8 s1.f_Flags, v16 s1.f_Window, v16 s1.f_Urgent, .slice A2 (s1.f_Options).length c3, v8 s1.f_Type, v8 s1.f_Code, .slice A5 (s1.f_Data).length c6], .box g67 62 [vI 8, vI 6, .func (.func 52) #[] #[], .func (.func 53) #[] #[], .func (.func 54) #[] #[]], .box g84 26 [v8 s1.f_Proto, v16 s1.f_Src, v16 s1.f_Dst, v32 0, v32 0, v8 0, v16 0, v16 0, .slice none 0 0, v8 0, v8 0, .slice A5 (s1.f_Data).length c6]] ∧ F_trans_Right_j3 s1 = some r) ?_ ?_
   ·replace hM := hM.drewN 1
    refine KC.draw [] [5, 7] [3, 5, 7] [0, 2, 4, 6] (.cons 0 (.cons 1 (.cons 2 (.cons 4 (.alt 3 (.ofList [5, 6, 7]) 5 (.ofList [3, 6, 7])))))) moP (by kernel_rfl) ?_
    refine RD.p rfl rfl rfl rfl (fun w' => O.fldA fl26_0 (by decide) rfl) ?_
    refine RD.q rfl rfl rfl rfl (fun w' hf => O.load sc5 rfl (Cs.adds [0] ((hM.bx (i := 0) rfl).fut hf) rfl)) ?_
    refine RD.p rfl rfl rfl rfl (fun w' => O.fldA fl26_11 (by decide) rfl) ?_
    refine RD.p rfl rfl rfl rfl (fun w' => O.fldA fl26_0 (by decide) rfl) ?_
    refine RD.alt ?_ ?_
    ·refine RD.mq rfl rfl (O.load sc24 rfl (Cs.adds [11] ((hM.bx (i := 0) rfl)) rfl)) rfl ?_
     refine RD.meffs rfl rfl rfl (E.stB (j := 2) (off := 0) (vs := [v8 s1.f_Proto]) (cs' := [v8 s1.f_Proto, v16 s1.f_Src, v16 s1.f_Dst, v32 0, v32 0, v8 0, v16 0, v16 0, .slice none 0 0, v8 0, v8 0, .slice none 0 0]) hM rfl sz5 rfl (adds_eq [0] rfl) rfl rfl (One.all rfl) rfl rfl) fun w88 hM1 => ?_
     clear hM
     have hM := hM1
     clear hM1
     refine RD.p rfl rfl rfl rfl (fun w' => O.fldA fl26_11 (by decide) rfl) ?_
     refine RD.meffs rfl rfl rfl (E.stB (j := 2) (off := 11) (vs := [.slice A5 (s1.f_Data).length c6]) (cs' := [v8 s1.f_Proto, v16 s1.f_Src, v16 s1.f_Dst, v32 0, v32 0, v8 0, v16 0, v16 0, .slice none 0 0, v8 0, v8 0, .slice A5 (s1.f_Data).length c6]) hM rfl sz24 rfl (adds_eq [11] rfl) rfl rfl (One.all rfl) rfl rfl) fun w89 hM1 => ?_
     clear hM
     have hM := hM1
     clear hM1
     refine RD.nil ?_
     refine KQ.then_k ?_
     exact fun a ha => ⟨ha.less (less_cons rfl (less_cons rfl (less_cons rfl less_nil))), hM, hF⟩
    refine RD.meffs rfl rfl rfl (E.stB (j := 2) (off := 0) (vs := [v8 s1.f_Proto]) (cs' := [v8 s1.f_Proto, v16 s1.f_Src, v16 s1.f_Dst, v32 0, v32 0, v8 0, v16 0, v16 0, .slice none 0 0, v8 0, v8 0, .slice none 0 0]) hM rfl sz5 rfl (adds_eq [0] rfl) rfl rfl (One.all rfl) rfl rfl) fun w90 hM1 => ?_
    clear hM
    have hM := hM1
    clear hM1
    refine RD.mq rfl rfl (O.load sc24 rfl (Cs.adds [11] ((hM.bx (i := 0) rfl)) rfl)) rfl ?_
    refine RD.p rfl rfl rfl rfl (fun w' => O.fldA fl26_11 (by decide) rfl) ?_
    refine RD.meffs rfl rfl rfl (E.stB (j := 2) (off := 11) (vs := [.slice A5 (s1.f_Data).length c6]) (cs' := [v8 s1.f_Proto, v16 s1.f_Src, v16 s1.f_Dst, v32 0, v32 0, v8 0, v16 0, v16 0, .slice none 0 0, v8 0, v8 0, .slice A5 (s1.f_Data).length c6]) hM rfl sz24 rfl (adds_eq [11] rfl) rfl rfl (One.all rfl) rfl rfl) fun w91 hM1 => ?_
    clear hM
    have hM := hM1
    clear hM1
    refine RD.nil ?_
    refine KQ.then_k ?_
    exact fun a ha => ⟨ha.less (less_cons rfl (less_cons rfl (less_cons rfl less_nil))), hM, hF⟩
   rintro a w95 ⟨ha, hM, hF⟩
   refine KC.app ha ?_
   clear ha
   unfold F_trans_Right_j3 at hF
   refine KC.cut (fun a w109 => ∃ (t108 : Bool), Kn 47 [(2, vB t108)] a ∧ Mem w [] w109 [] ∧ F_trans_Right_j4 t108 = some r) ?_ ?_
   ·refine KC.region ?_
    refine RL.val (O.loadN (cs := [v8 s1.f_Proto, v16 s1.f_Src, v16 s1.f_Dst, v32 s1.f_Seq, v32 s1.f_Ack, v8 s1.f_Flags, v16 s1.f_Window, v16 s1.f_Urgent, .slice A2 (s1.f_Options).length c3, v8 s1.f_Type, v8 s1.f_Code, .slice A5 (s1.f_Data).length c6]) ag26 rfl (Cs.addsN [] ((hM.bx (i := 0) rfl)) rfl)) rfl ?_
    refine RL.val (O.loadN (cs := [v8 s1.f_Proto, v16 s1.f_Src, v16 s1.f_Dst, v32 0, v32 0, v8 0, v16 0, v16 0, .slice none 0 0, v8 0, v8 0, .slice A5 (s1.f_Data).length c6]) ag26 rfl (Cs.addsN [] ((hM.bx (i := 2) rfl)) rfl)) rfl ?_
    refine obindE hF fun y96 hx97 hF => ?_
    refine RL.call Try.func15 bd15 rfl rfl (c_trans_Same _ s1 _ _ (hM.inp hr4 Off.nil) _ _ (hM.inp hr7 Off.nil) (T_trans_Segment.mk s1.f_Proto s1.f_Src s1.f_Dst 0 0 0 0 0 ([]) 0 0 s1.f_Data) none 0 Rd.nilr _ _ (hM.inp hr7 Off.nil) _ hx97) fun v w98 hv => ?_
    obtain ⟨rfl, hN99⟩ := hv
    replace hM := hM.call0 hN99
    refine vm rfl rfl ?_
    refine RL.bcase (t := 28) rfl (fun hc => ?_) (fun hc => ?_)
    ·rw [if_pos hc] at hF
     refine RL.gval rfl rfl (O.fldA fl26_8 (by decide) rfl) rfl ?_
     refine RL.gval rfl rfl (O.load sc24 rfl (Cs.adds [8] ((hM.bx (i := 0) rfl)) rfl)) rfl ?_
     refine RL.gval rfl rfl (O.len sl24 rfl) rfl ?_
     refine RL.gval rfl rfl (O.rem rfl rfl (by decide)) rfl ?_
     refine RL.gval rfl rfl (O.eql rfl rfl) rfl ?_
     refine RL.val (O.pickt rfl rfl) rfl ?_
     refine vm rfl rfl ?_
     refine RL.bcase (t := 35) rfl (fun hc => ?_) (fun hc => ?_)
     ·rw [if_pos hc] at hF
      refine RL.gval rfl rfl (O.fldA fl26_8 (by decide) rfl) rfl ?_
      refine RL.gval rfl rfl (O.load sc24 rfl (Cs.adds [8] ((hM.bx (i := 0) rfl)) rfl)) rfl ?_
      refine RL.gval rfl rfl (O.len sl24 rfl) rfl ?_
      refine RL.gval rfl rfl (O.leq rfl rfl) rfl ?_
      refine RL.val (O.pickt rfl rfl) rfl ?_
      refine vm rfl rfl ?_
      refine RL.bcase (t := 41) rfl (fun hc => ?_) (fun hc => ?_)
      ·rw [if_pos hc] at hF
       refine RL.gval rfl rfl (O.loadN (cs := [vI 8, vI 6, .func (.func 52) #[] #[], .func (.func 53) #[] #[], .func (.func 54) #[] #[]]) ag62 rfl (Cs.addsN [] ((hM.bx (i := 1) rfl)) rfl)) rfl ?_
       refine RL.gval rfl rfl (O.loadN (cs := [v8 s1.f_Proto, v16 s1.f_Src, v16 s1.f_Dst, v32 s1.f_Seq, v32 s1.f_Ack, v8 s1.f_Flags, v16 s1.f_Window, v16 s1.f_Urgent, .slice A2 (s1.f_Options).length c3, v8 s1.f_Type, v8 s1.f_Code, .slice A5 (s1.f_Data).length c6]) ag26 rfl (Cs.addsN [] ((hM.bx (i := 0) rfl)) rfl)) rfl ?_
       refine RL.gicall rfl rfl Try.func32 bd32 rfl rfl rfl Try.ntmps32 rfl ?_
       refine sr fun Q100 hQ100 => ?_
       refine RL.eff (E.box (vs := [vI 8, vI 6, .func (.func 52) #[] #[], .func (.func 53) #[] #[], .func (.func 54) #[] #[]]) hM rfl rfl) rfl fun v w102 hv => ?_
       clear hM
       obtain ⟨g101, rfl, hM, hf⟩ := hv
       refine RL.eff (E.box (vs := [v8 s1.f_Proto, v16 s1.f_Src, v16 s1.f_Dst, v32 s1.f_Seq, v32 s1.f_Ack, v8 s1.f_Flags, v16 s1.f_Window, v16 s1.f_Urgent, .slice A2 (s1.f_Options).length c3, v8 s1.f_Type, v8 s1.f_Code, .slice A5 (s1.f_Data).length c6]) hM rfl rfl) rfl fun v w105 hv => ?_
       clear hM
       obtain ⟨g104, rfl, hM, hf⟩ := hv
       refine va rfl rfl ?_
       refine nt hQ100 ?_
       clear hQ100 Q100
       refine sr fun Q107 hQ107 => ?_
       refine RL.val (O.fldA fl62_0 (by decide) rfl) rfl ?_
       refine RL.val (O.load sc3 rfl (Cs.adds [0] ((hM.bx (i := 3) rfl)) rfl)) rfl ?_
       refine RL.val (O.fldA fl26_8 (by decide) rfl) rfl ?_
       refine RL.val (O.load sc24 rfl (Cs.adds [8] ((hM.bx (i := 4) rfl)) rfl)) rfl ?_
       refine RL.val (O.len sl24 rfl) rfl ?_
       refine RL.val (O.add rfl rfl) rfl ?_
       refine RL.val (O.fldA fl26_11 (by decide) rfl) rfl ?_
       refine RL.val (O.load sc24 rfl (Cs.adds [11] ((hM.bx (i := 4) rfl)) rfl)) rfl ?_
       refine RL.val (O.len sl24 rfl) rfl ?_
       refine RL.val (O.add rfl rfl) rfl ?_
       refine va rfl rfl ?_
       refine nt hQ107 ?_
       clear hQ107 Q107
       refine KC.ret ?_
       refine KQ.rets Try.results32 (RVs.cons (RV.tm rfl) RVs.nil) ?_
       refine ⟨.int .i64 (IntKind.i64.wrap ((IntKind.i64.wrap (8 + (s1.f_Options.length : Int))) + (s1.f_Data.length : Int))), rfl, ?_⟩
       refine RL.gval rfl rfl (O.leq rfl rfl) rfl ?_
       refine RL.val (O.pickt rfl rfl) rfl ?_
       refine va rfl rfl ?_
       refine RL.nil ?_
       refine KQ.then_k ?_
       replace hM := hM.pick [] rfl (by decide)
       exact fun a ha => ⟨(decide ((IntKind.i64.wrap ((IntKind.i64.wrap (8 + (s1.f_Options.length : Int))) + (s1.f_Data.length : Int))) ≤ 65535)), ha.less (less_cons rfl less_nil), hM, hF⟩
      rw [if_neg (ne_true hc)] at hF
      refine RL.brun1 5 46 false (by kernel_rfl) ?_
      refine va rfl rfl ?_
      refine RL.nil ?_
      refine KQ.then_k ?_
      replace hM := hM.pick [] rfl (by decide)
      exact fun a ha => ⟨false, ha.less (less_cons rfl less_nil), hM, hF⟩
     rw [if_neg (ne_true hc)] at hF
     refine RL.brun1 11 46 false (by kernel_rfl) ?_
     refine va rfl rfl ?_
     refine RL.nil ?_
     refine KQ.then_k ?_
     replace hM := hM.pick [] rfl (by decide)
     exact fun a ha => ⟨false, ha.less (less_cons rfl less_nil), hM, hF⟩
    rw [if_neg (ne_true hc)] at hF
    refine RL.brun1 18 46 false (by kernel_rfl) ?_
    refine va rfl rfl ?_
    refine RL.nil ?_
    refine KQ.then_k ?_
    replace hM := hM.pick [] rfl (by decide)
    exact fun a ha => ⟨false, ha.less (less_cons rfl less_nil), hM, hF⟩
   rintro a w109 ⟨t108, ha, hM, hF⟩
   refine KC.app ha ?_
   clear ha
   unfold F_trans_Right_j4 at hF
   refine KC.ret ?_
   have hE := Option.some.inj hF
   clear hF
   subst hE
   refine KQ.rets Try.results13 (RVs.cons (RV.tm rfl) RVs.nil) ?_
   exact ⟨_, rfl, rfl, hM⟩
  rw [if_neg hk66] at hF
  by_cases hk110 : (s1.f_Proto == 1) = true
  ·rw [if_pos hk110] at hF
   refine RD.q rfl rfl rfl rfl (fun w' hf => O.lkT ((hM.mapAt (i := 1) rfl).fut hf) Try.underlying64 Try.underlying5 rfl rfl (lk_miss hk19 (lk_miss hk66 (lk_hit hk110)))) ?_
   refine RD.p rfl rfl rfl rfl (fun w' => O.move rfl) ?_
   refine RD.p rfl rfl rfl rfl (fun w' => O.ext rfl rfl) ?_
   refine RD.p rfl rfl rfl rfl (fun w' => O.ext rfl rfl) ?_
   refine RD.meff rfl rfl (E.alloc hM ze62) rfl fun v w112 hv => ?_
   clear hM
   obtain ⟨g111, rfl, hM, hf⟩ := hv
   refine ⟨fun _ => hf, ?_⟩
   refine RD.meffs rfl rfl rfl (E.stB (j := 2) (off := 0) (vs := [vI 4, vI 2, .func (.func 46) #[] #[], .func (.func 47) #[] #[], .func (.func 48) #[] #[]]) (cs' := [vI 4, vI 2, .func (.func 46) #[] #[], .func (.func 47) #[] #[], .func (.func 48) #[] #[]]) hM rfl sz62 rfl (adds_eq [] rfl) rfl rfl (One.all rfl) rfl rfl) fun w114 hM1 => ?_
   clear hM
   have hM := hM1
   clear hM1
   refine RD.p rfl rfl rfl rfl (fun w' => O.assign rfl) ?_
   refine RD.nil ?_
   refine KQ.thn hQ12 ?_
   clear hQ12 Q12
   refine KC.seqH fun Q115 hQ115 => ?_
   refine sr fun Q116 hQ116 => ?_
   refine vm rfl rfl ?_
   refine RL.val (O.not rfl) rfl ?_
   refine nt hQ116 ?_
   clear hQ116 Q116
   refine KC.condF rfl ?_
   refine KC.skip ?_
   refine KQ.thn hQ115 ?_
   clear hQ115 Q115
   refine sr fun Q117 hQ117 => ?_
   refine RL.val (O.fldA fl62_2 (by decide) rfl) rfl ?_
   refine RL.val (O.load sc58 rfl (Cs.adds [2] ((hM.bx (i := 2) rfl)) rfl)) rfl ?_
   refine RL.val (O.loadN (cs := [v8 s1.f_Proto, v16 s1.f_Src, v16 s1.f_Dst, v32 s1.f_Seq, v32 s1.f_Ack, v8 s1.f_Flags, v16 s1.f_Window, v16 s1.f_Urgent, .slice A2 (s1.f_Options).length c3, v8 s1.f_Type, v8 s1.f_Code, .slice A5 (s1.f_Data).length c6]) ag26 rfl (Cs.addsN [] ((hM.bx (i := 0) rfl)) rfl)) rfl ?_
   refine RL.icallv (first := []) (captured := []) rfl Try.func46 bd46 rfl rfl rfl Try.ntmps46 rfl ?_
   refine sr fun Q118 hQ118 => ?_
   refine RL.eff (E.box (vs := [v8 s1.f_Proto, v16 s1.f_Src, v16 s1.f_Dst, v32 s1.f_Seq, v32 s1.f_Ack, v8 s1.f_Flags, v16 s1.f_Window, v16 s1.f_Urgent, .slice A2 (s1.f_Options).length c3, v8 s1.f_Type, v8 s1.f_Code, .slice A5 (s1.f_Data).length c6]) hM rfl rfl) rfl fun v w120 hv => ?_
   clear hM
   obtain ⟨g119, rfl, hM, hf⟩ := hv
   refine RL.eff (E.alloc hM ze26) rfl fun v w123 hv => ?_
   clear hM
   obtain ⟨g122, rfl, hM, hf⟩ := hv
   refine nt hQ118 ?_
   clear hQ118 Q118
   replace hM := hM.pick [0, 2, 3, 4] rfl (by decide)
   refine sr fun Q125 hQ125 => ?_
   refine RL.val (O.fldA fl26_9 (by decide) rfl) rfl ?_
   refine RL.val (O.load sc5 rfl (Cs.adds [9] ((hM.bx (i := 2) rfl)) rfl)) rfl ?_
   refine RL.val (O.fldA fl26_10 (by decide) rfl) rfl ?_
   refine RL.val (O.load sc5 rfl (Cs.adds [10] ((hM.bx (i := 2) rfl)) rfl)) rfl ?_
   refine RL.val (O.bld (cs := [v8 0, v16 0, v16 0, v32 0, v32 0, v8 0, v16 0, v16 0, .slice none 0 0, v8 s1.f_Type, v8 s1.f_Code, .slice none 0 0]) bt26 rfl (by kernel_rfl)) rfl ?_
   refine RL.effs (E.stB (j := 3) (off := 0) (vs := [v8 0, v16 0, v16 0, v32 0, v32 0, v8 0, v16 0, v16 0, .slice none 0 0, v8 s1.f_Type, v8 s1.f_Code, .slice none 0 0]) (cs' := [v8 0, v16 0, v16 0, v32 0, v32 0, v8 0, v16 0, v16 0, .slice none 0 0, v8 s1.f_Type, v8 s1.f_Code, .slice none 0 0]) hM rfl sz26 rfl (adds_eq [] rfl) rfl rfl (One.all rfl) rfl rfl) fun w126 hM1 => ?_
   clear hM
   have hM := hM1
   clear hM1
   refine nt hQ125 ?_
   clear hQ125 Q125
   refine KC.ret ?_
   have hb127 := hM.bx (i := 3) rfl
   refine KQ.rets Try.results46 (RVs.cons (RV.cN (cs := [v8 0, v16 0, v16 0, v32 0, v32 0, v8 0, v16 0, v16 0, .slice none 0 0, v8 s1.f_Type, v8 s1.f_Code, .slice none 0 0]) rfl ag26 hb127) RVs.nil) ?_
   refine ⟨.agg #[v8 0, v16 0, v16 0, v32 0, v32 0, v8 0, v16 0, v16 0, .slice none 0 0, v8 s1.f_Type, v8 s1.f_Code, .slice none 0 0], rfl, ?_⟩
   refine RL.eff (E.alloc hM ze26) rfl fun v w129 hv => ?_
   clear hM
   obtain ⟨g128, rfl, hM, hf⟩ := hv
   refine RL.effs (E.stB (j := 4) (off := 0) (vs := [v8 0, v16 0, v16 0, v32 0, v32 0, v8 0, v16 0, v16 0, .slice none 0 0, v8 s1.f_Type, v8 s1.f_Code, .slice none 0 0]) (cs' := [v8 0, v16 0, v16 0, v32 0, v32 0, v8 0, v16 0, v16 0, .slice none 0 0, v8 s1.f_Type, v8 s1.f_Code, .slice none 0 0]) hM rfl sz26 rfl (adds_eq [] rfl) rfl rfl (One.all rfl) rfl rfl) fun w131 hM1 => ?_
   clear hM
   have hM := hM1
   clear hM1
   refine nt hQ117 ?_
   clear hQ117 Q117
   replace hM := hM.pick [0, 1, 4] rfl (by decide)
   refine KC.cut (fun a w139 => Kn 47 [(1, .pointer (some ⟨g9, 0, none⟩)), (3, .pointer (some ⟨g111, 0, none⟩)), (5, .pointer (some ⟨g128, 0, none⟩))] a ∧ Mem w [] w139 [.box g9 26 [v8 s1.f_Proto, v16 s1.f_Src, v16 s1.f_Dst, v32 s1.f_Seq, v32 s1.f_Ack, v8 s1.f_Flags, v16 s1.f_Window, v16 s1.f_Urgent, .slice A2 (s1.f_Options).length c3, v8 s1.f_Type, v8 s1.f_Code, .slice A5 (s1.f_Data).length c6], .box g111 62 [vI 4, vI 2, .func (.func 46) #[] #[], .func (.func 47) #[] #[], .func (.func 48) #[] #[]], .box g128 26 [v8 s1.f_Proto, v16 0, v16 0, v32 0, v32 0, v8 0, v16 0, v16 0, .slice none 0 0, v8 s1.f_Type, v8 s1.f_Code, .slice A5 (s1.f_Data).length c6]] ∧ F_trans_Right_j5 s1 = some r) ?_ ?_
   ·replace hM := hM.drewN 1
    refine KC.draw [] [5, 7] [3, 5, 7] [0, 2, 4, 6] (.cons 0 (.cons 1 (.cons 2 (.cons 4 (.alt 3 (.ofList [5, 6, 7]) 5 (.ofList [3, 6, 7])))))) moP (by kernel_rfl) ?_
    refine RD.p rfl rfl rfl rfl (fun w' => O.fldA fl26_0 (by decide) rfl) ?_
    refine RD.q rfl rfl rfl rfl (fun w' hf => O.load sc5 rfl (Cs.adds [0] ((hM.bx (i := 0) rfl).fut hf) rfl)) ?_
    refine RD.p rfl rfl rfl rfl (fun w' => O.fldA fl26_11 (by decide) rfl) ?_
    refine RD.p rfl rfl rfl rfl (fun w' => O.fldA fl26_0 (by decide) rfl) ?_
    refine RD.alt ?_ ?_
    ·refine RD.mq rfl rfl (O.load sc24 rfl (Cs.adds [11] ((hM.bx (i := 0) rfl)) rfl)) rfl ?_
     refine RD.meffs rfl rfl rfl (E.stB (j := 2) (off := 0) (vs := [v8 s1.f_Proto]) (cs' := [v8 s1.f_Proto, v16 0, v16 0, v32 0, v32 0, v8 0, v16 0, v16 0, .slice none 0 0, v8 s1.f_Type, v8 s1.f_Code, .slice none 0 0]) hM rfl sz5 rfl (adds_eq [0] rfl) rfl rfl (One.all rfl) rfl rfl) fun w132 hM1 => ?_
     clear hM
     have hM := hM1
     clear hM1
     refine RD.p rfl rfl rfl rfl (fun w' => O.fldA fl26_11 (by decide) rfl) ?_
     refine RD.meffs rfl rfl rfl (E.stB (j := 2) (off := 11) (vs := [.slice A5 (s1.f_Data).length c6]) (cs' := [v8 s1.f_Proto, v16 0, v16 0, v32 0, v32 0, v8 0, v16 0, v16 0, .slice none 0 0, v8 s1.f_Type, v8 s1.f_Code, .slice A5 (s1.f_Data).length c6]) hM rfl sz24 rfl (adds_eq [11] rfl) rfl rfl (One.all rfl) rfl rfl) fun w133 hM1 => ?_
     clear hM
     have hM := hM1
     clear hM1
     refine RD.nil ?_
     refine KQ.then_k ?_
     exact fun a ha => ⟨ha.less (less_cons rfl (less_cons rfl (less_cons rfl less_nil))), hM, hF⟩
    refine RD.meffs rfl rfl rfl (E.stB (j := 2) (off := 0) (vs := [v8 s1.f_Proto]) (cs' := [v8 s1.f_Proto, v16 0, v16 0, v32 0, v32 0, v8 0, v16 0, v16 0, .slice none 0 0, v8 s1.f_Type, v8 s1.f_Code, .slice none 0 0]) hM rfl sz5 rfl (adds_eq [0] rfl) rfl rfl (One.all rfl) rfl rfl) fun w134 hM1 => ?_
    clear hM
    have hM := hM1
    clear hM1
    refine RD.mq rfl rfl (O.load sc24 rfl (Cs.adds [11] ((hM.bx (i := 0) rfl)) rfl)) rfl ?_
    refine RD.p rfl rfl rfl rfl (fun w' => O.fldA fl26_11 (by decide) rfl) ?_
    refine RD.meffs rfl rfl rfl (E.stB (j := 2) (off := 11) (vs := [.slice A5 (s1.f_Data).length c6]) (cs' := [v8 s1.f_Proto, v16 0, v16 0, v32 0, v32 0, v8 0, v16 0, v16 0, .slice none 0 0, v8 s1.f_Type, v8 s1.f_Code, .slice A5 (s1.f_Data).length c6]) hM rfl sz24 rfl (adds_eq [11] rfl) rfl rfl (One.all rfl) rfl rfl) fun w135 hM1 => ?_
    clear hM
    have hM := hM1
    clear hM1
    refine RD.nil ?_
    refine KQ.then_k ?_
    exact fun a ha => ⟨ha.less (less_cons rfl (less_cons rfl (less_cons rfl less_nil))), hM, hF⟩
   rintro a w139 ⟨ha, hM, hF⟩
   refine KC.app ha ?_
   clear ha
   unfold F_trans_Right_j5 at hF
   refine KC.cut (fun a w153 => ∃ (t152 : Bool), Kn 47 [(2, vB t152)] a ∧ Mem w [] w153 [] ∧ F_trans_Right_j6 t152 = some r) ?_ ?_
   ·refine KC.region ?_
    refine RL.val (O.loadN (cs := [v8 s1.f_Proto, v16 s1.f_Src, v16 s1.f_Dst, v32 s1.f_Seq, v32 s1.f_Ack, v8 s1.f_Flags, v16 s1.f_Window, v16 s1.f_Urgent, .slice A2 (s1.f_Options).length c3, v8 s1.f_Type, v8 s1.f_Code, .slice A5 (s1.f_Data).length c6]) ag26 rfl (Cs.addsN [] ((hM.bx (i := 0) rfl)) rfl)) rfl ?_
    refine RL.val (O.loadN (cs := [v8 s1.f_Proto, v16 0, v16 0, v32 0, v32 0, v8 0, v16 0, v16 0, .slice none 0 0, v8 s1.f_Type, v8 s1.f_Code, .slice A5 (s1.f_Data).length c6]) ag26 rfl (Cs.addsN [] ((hM.bx (i := 2) rfl)) rfl)) rfl ?_
    refine obindE hF fun y140 hx141 hF => ?_
    refine RL.call Try.func15 bd15 rfl rfl (c_trans_Same _ s1 _ _ (hM.inp hr4 Off.nil) _ _ (hM.inp hr7 Off.nil) (T_trans_Segment.mk s1.f_Proto 0 0 0 0 0 0 0 ([]) s1.f_Type s1.f_Code s1.f_Data) none 0 Rd.nilr _ _ (hM.inp hr7 Off.nil) _ hx141) fun v w142 hv => ?_
    obtain ⟨rfl, hN143⟩ := hv
    replace hM := hM.call0 hN143
    refine vm rfl rfl ?_
    refine RL.bcase (t := 28) rfl (fun hc => ?_) (fun hc => ?_)
    ·rw [if_pos hc] at hF
     refine RL.gval rfl rfl (O.fldA fl26_8 (by decide) rfl) rfl ?_
     refine RL.gval rfl rfl (O.load sc24 rfl (Cs.adds [8] ((hM.bx (i := 0) rfl)) rfl)) rfl ?_
     refine RL.gval rfl rfl (O.len sl24 rfl) rfl ?_
     refine RL.gval rfl rfl (O.rem rfl rfl (by decide)) rfl ?_
     refine RL.gval rfl rfl (O.eql rfl rfl) rfl ?_
     refine RL.val (O.pickt rfl rfl) rfl ?_
     refine vm rfl rfl ?_
     refine RL.bcase (t := 35) rfl (fun hc => ?_) (fun hc => ?_)
     ·rw [if_pos hc] at hF
      refine RL.gval rfl rfl (O.fldA fl26_8 (by decide) rfl) rfl ?_
      refine RL.gval rfl rfl (O.load sc24 rfl (Cs.adds [8] ((hM.bx (i := 0) rfl)) rfl)) rfl ?_
      refine RL.gval rfl rfl (O.len sl24 rfl) rfl ?_
      refine RL.gval rfl rfl (O.leq rfl rfl) rfl ?_
      refine RL.val (O.pickt rfl rfl) rfl ?_
      refine vm rfl rfl ?_
      refine RL.bcase (t := 41) rfl (fun hc => ?_) (fun hc => ?_)
      ·rw [if_pos hc] at hF
       refine RL.gval rfl rfl (O.loadN (cs := [vI 4, vI 2, .func (.func 46) #[] #[], .func (.func 47) #[] #[], .func (.func 48) #[] #[]]) ag62 rfl (Cs.addsN [] ((hM.bx (i := 1) rfl)) rfl)) rfl ?_
       refine RL.gval rfl rfl (O.loadN (cs := [v8 s1.f_Proto, v16 s1.f_Src, v16 s1.f_Dst, v32 s1.f_Seq, v32 s1.f_Ack, v8 s1.f_Flags, v16 s1.f_Window, v16 s1.f_Urgent, .slice A2 (s1.f_Options).length c3, v8 s1.f_Type, v8 s1.f_Code, .slice A5 (s1.f_Data).length c6]) ag26 rfl (Cs.addsN [] ((hM.bx (i := 0) rfl)) rfl)) rfl ?_
       refine RL.gicall rfl rfl Try.func32 bd32 rfl rfl rfl Try.ntmps32 rfl ?_
       refine sr fun Q144 hQ144 => ?_
       refine RL.eff (E.box (vs := [vI 4, vI 2, .func (.func 46) #[] #[], .func (.func 47) #[] #[], .func (.func 48) #[] #[]]) hM rfl rfl) rfl fun v w146 hv => ?_
       clear hM
       obtain ⟨g145, rfl, hM, hf⟩ := hv
       refine RL.eff (E.box (vs := [v8 s1.f_Proto, v16 s1.f_Src, v16 s1.f_Dst, v32 s1.f_Seq, v32 s1.f_Ack, v8 s1.f_Flags, v16 s1.f_Window, v16 s1.f_Urgent, .slice A2 (s1.f_Options).length c3, v8 s1.f_Type, v8 s1.f_Code, .slice A5 (s1.f_Data).length c6]) hM rfl rfl) rfl fun v w149 hv => ?_
       clear hM
       obtain ⟨g148, rfl, hM, hf⟩ := hv
       refine va rfl rfl ?_
       refine nt hQ144 ?_
       clear hQ144 Q144
       refine sr fun Q151 hQ151 => ?_
       refine RL.val (O.fldA fl62_0 (by decide) rfl) rfl ?_
       refine RL.val (O.load sc3 rfl (Cs.adds [0] ((hM.bx (i := 3) rfl)) rfl)) rfl ?_
       refine RL.val (O.fldA fl26_8 (by decide) rfl) rfl ?_
       refine RL.val (O.load sc24 rfl (Cs.adds [8] ((hM.bx (i := 4) rfl)) rfl)) rfl ?_
       refine RL.val (O.len sl24 rfl) rfl ?_
       refine RL.val (O.add rfl rfl) rfl ?_
       refine RL.val (O.fldA fl26_11 (by decide) rfl) rfl ?_
       refine RL.val (O.load sc24 rfl (Cs.adds [11] ((hM.bx (i := 4) rfl)) rfl)) rfl ?_
       refine RL.val (O.len sl24 rfl) rfl ?_
       refine RL.val (O.add rfl rfl) rfl ?_
       refine va rfl rfl ?_
       refine nt hQ151 ?_
       clear hQ151 Q151
       refine KC.ret ?_
       refine KQ.rets Try.results32 (RVs.cons (RV.tm rfl) RVs.nil) ?_
       refine ⟨.int .i64 (IntKind.i64.wrap ((IntKind.i64.wrap (4 + (s1.f_Options.length : Int))) + (s1.f_Data.length : Int))), rfl, ?_⟩
       refine RL.gval rfl rfl (O.leq rfl rfl) rfl ?_
       refine RL.val (O.pickt rfl rfl) rfl ?_
       refine va rfl rfl ?_
       refine RL.nil ?_
       refine KQ.then_k ?_
       replace hM := hM.pick [] rfl (by decide)
       exact fun a ha => ⟨(decide ((IntKind.i64.wrap ((IntKind.i64.wrap (4 + (s1.f_Options.length : Int))) + (s1.f_Data.length : Int))) ≤ 65535)), ha.less (less_cons rfl less_nil), hM, hF⟩
      rw [if_neg (ne_true hc)] at hF
      refine RL.brun1 5 46 false (by kernel_rfl) ?_
      refine va rfl rfl ?_
      refine RL.nil ?_
      refine KQ.then_k ?_
      replace hM := hM.pick [] rfl (by decide)
      exact fun a ha => ⟨false, ha.less (less_cons rfl less_nil), hM, hF⟩
     rw [if_neg (ne_true hc)] at hF
     refine RL.brun1 11 46 false (by kernel_rfl) ?_
     refine va rfl rfl ?_
     refine RL.nil ?_
     refine KQ.then_k ?_
     replace hM := hM.pick [] rfl (by decide)
     exact fun a ha => ⟨false, ha.less (less_cons rfl less_nil), hM, hF⟩
    rw [if_neg (ne_true hc)] at hF
    refine RL.brun1 18 46 false (by kernel_rfl) ?_
    refine va rfl rfl ?_
    refine RL.nil ?_
    refine KQ.then_k ?_
    replace hM := hM.pick [] rfl (by decide)
    exact fun a ha => ⟨false, ha.less (less_cons rfl less_nil), hM, hF⟩
   rintro a w153 ⟨t152, ha, hM, hF⟩
   refine KC.app ha ?_
   clear ha
   unfold F_trans_Right_j6 at hF
   refine KC.ret ?_
   have hE := Option.some.inj hF
   clear hF
   subst hE
   refine KQ.rets Try.results13 (RVs.cons (RV.tm rfl) RVs.nil) ?_
   exact ⟨_, rfl, rfl, hM⟩
  rw [if_neg hk110] at hF
  by_cases hk154 : (s1.f_Proto == 58) = true
  ·rw [if_pos hk154] at hF
   refine RD.q rfl rfl rfl rfl (fun w' hf => O.lkT ((hM.mapAt (i := 1) rfl).fut hf) Try.underlying64 Try.underlying5 rfl rfl (lk_miss hk19 (lk_miss hk66 (lk_miss hk110 (lk_hit hk154))))) ?_
   refine RD.p rfl rfl rfl rfl (fun w' => O.move rfl) ?_
   refine RD.p rfl rfl rfl rfl (fun w' => O.ext rfl rfl) ?_
   refine RD.p rfl rfl rfl rfl (fun w' => O.ext rfl rfl) ?_
   refine RD.meff rfl rfl (E.alloc hM ze62) rfl fun v w156 hv => ?_
   clear hM
   obtain ⟨g155, rfl, hM, hf⟩ := hv
   refine ⟨fun _ => hf, ?_⟩
   refine RD.meffs rfl rfl rfl (E.stB (j := 2) (off := 0) (vs := [vI 4, vI 2, .func (.func 46) #[] #[], .func (.func 47) #[] #[], .func (.func 48) #[] #[]]) (cs' := [vI 4, vI 2, .func (.func 46) #[] #[], .func (.func 47) #[] #[], .func (.func 48) #[] #[]]) hM rfl sz62 rfl (adds_eq [] rfl) rfl rfl (One.all rfl) rfl rfl) fun w158 hM1 => ?_
   clear hM
   have hM := hM1
   clear hM1
   refine RD.p rfl rfl rfl rfl (fun w' => O.assign rfl) ?_
   refine RD.nil ?_
   refine KQ.thn hQ12 ?_
   clear hQ12 Q12
   refine KC.seqH fun Q159 hQ159 => ?_
   refine sr fun Q160 hQ160 => ?_
   refine vm rfl rfl ?_
   refine RL.val (O.not rfl) rfl ?_
   refine nt hQ160 ?_
   clear hQ160 Q160
   refine KC.condF rfl ?_
   refine KC.skip ?_
   refine KQ.thn hQ159 ?_
   clear hQ159 Q159
   refine sr fun Q161 hQ161 => ?_
   refine RL.val (O.fldA fl62_2 (by decide) rfl) rfl ?_
   refine RL.val (O.load sc58 rfl (Cs.adds [2] ((hM.bx (i := 2) rfl)) rfl)) rfl ?_
   refine RL.val (O.loadN (cs := [v8 s1.f_Proto, v16 s1.f_Src, v16 s1.f_Dst, v32 s1.f_Seq, v32 s1.f_Ack, v8 s1.f_Flags, v16 s1.f_Window, v16 s1.f_Urgent, .slice A2 (s1.f_Options).length c3, v8 s1.f_Type, v8 s1.f_Code, .slice A5 (s1.f_Data).length c6]) ag26 rfl (Cs.addsN [] ((hM.bx (i := 0) rfl)) rfl)) rfl ?_
   refine RL.icallv (first := []) (captured := []) rfl Try.func46 bd46 rfl rfl rfl Try.ntmps46 rfl ?_
   refine sr fun Q162 hQ162 => ?_
   refine RL.eff (E.box (vs := [v8 s1.f_Proto, v16 s1.f_Src, v16 s1.f_Dst, v32 s1.f_Seq, v32 s1.f_Ack, v8 s1.f_Flags, v16 s1.f_Window, v16 s1.f_Urgent, .slice A2 (s1.f_Options).length c3, v8 s1.f_Type, v8 s1.f_Code, .slice A5 (s1.f_Data).length c6]) hM rfl rfl) rfl fun v w164 hv => ?_
   clear hM
   obtain ⟨g163, rfl, hM, hf⟩ := hv
   refine RL.eff (E.alloc hM ze26) rfl fun v w167 hv => ?_
   clear hM
   obtain ⟨g166, rfl, hM, hf⟩ := hv
   refine nt hQ162 ?_
   clear hQ162 Q162
   replace hM := hM.pick [0, 2, 3, 4] rfl (by decide)
   refine sr fun Q169 hQ169 => ?_
   refine RL.val (O.fldA fl26_9 (by decide) rfl) rfl ?_
   refine RL.val (O.load sc5 rfl (Cs.adds [9] ((hM.bx (i := 2) rfl)) rfl)) rfl ?_
   refine RL.val (O.fldA fl26_10 (by decide) rfl) rfl ?_
   refine RL.val (O.load sc5 rfl (Cs.adds [10] ((hM.bx (i := 2) rfl)) rfl)) rfl ?_
   refine RL.val (O.bld (cs := [v8 0, v16 0, v16 0, v32 0, v32 0, v8 0, v16 0, v16 0, .slice none 0 0, v8 s1.f_Type, v8 s1.f_Code, .slice none 0 0]) bt26 rfl (by kernel_rfl)) rfl ?_
   refine RL.effs (E.stB (j := 3) (off := 0) (vs := [v8 0, v16 0, v16 0, v32 0, v32 0, v8 0, v16 0, v16 0, .slice none 0 0, v8 s1.f_Type, v8 s1.f_Code, .slice none 0 0]) (cs' := [v8 0, v16 0, v16 0, v32 0, v32 0, v8 0, v16 0, v16 0, .slice none 0 0, v8 s1.f_Type, v8 s1.f_Code, .slice none 0 0]) hM rfl sz26 rfl (adds_eq [] rfl) rfl rfl (One.all rfl) rfl rfl) fun w170 hM1 => ?_
   clear hM
   have hM := hM1
   clear hM1
   refine nt hQ169 ?_
   clear hQ169 Q169
   refine KC.ret ?_
   have hb171 := hM.bx (i := 3) rfl
   refine KQ.rets Try.results46 (RVs.cons (RV.cN (cs := [v8 0, v16 0, v16 0, v32 0, v32 0, v8 0, v16 0, v16 0, .slice none 0 0, v8 s1.f_Type, v8 s1.f_Code, .slice none 0 0]) rfl ag26 hb171) RVs.nil) ?_
   refine ⟨.agg #[v8 0, v16 0, v16 0, v32 0, v32 0, v8 0, v16 0, v16 0, .slice none 0 0, v8 s1.f_Type, v8 s1.f_Code, .slice none 0 0], rfl, ?_⟩
   refine RL.eff (E.alloc hM ze26) rfl fun v w173 hv => ?_
   clear hM
   obtain ⟨g172, rfl, hM, hf⟩ := hv
   refine RL.effs (E.stB (j := 4) (off := 0) (vs := [v8 0, v16 0, v16 0, v32 0, v32 0, v8 0, v16 0, v16 0, .slice none 0 0, v8 s1.f_Type, v8 s1.f_Code, .slice none 0 0]) (cs' := [v8 0, v16 0, v16 0, v32 0, v32 0, v8 0, v16 0, v16 0, .slice none 0 0, v8 s1.f_Type, v8 s1.f_Code, .slice none 0 0]) hM rfl sz26 rfl (adds_eq [] rfl) rfl rfl (One.all rfl) rfl rfl) fun w175 hM1 => ?_
   clear hM
   have hM := hM1
   clear hM1
   refine nt hQ161 ?_
   clear hQ161 Q161
   replace hM := hM.pick [0, 1, 4] rfl (by decide)
   refine KC.cut (fun a w183 => Kn 47 [(1, .pointer (some ⟨g9, 0, none⟩)), (3, .pointer (some ⟨g155, 0, none⟩)), (5, .pointer (some ⟨g172, 0, none⟩))] a ∧ Mem w [] w183 [.box g9 26 [v8 s1.f_Proto, v16 s1.f_Src, v16 s1.f_Dst, v32 s1.f_Seq, v32 s1.f_Ack, v8 s1.f_Flags, v16 s1.f_Window, v16 s1.f_Urgent, .slice A2 (s1.f_Options).length c3, v8 s1.f_Type, v8 s1.f_Code, .slice A5 (s1.f_Data).length c6], .box g155 62 [vI 4, vI 2, .func (.func 46) #[] #[], .func (.func 47) #[] #[], .func (.func 48) #[] #[]], .box g172 26 [v8 s1.f_Proto, v16 0, v16 0, v32 0, v32 0, v8 0, v16 0, v16 0, .slice none 0 0, v8 s1.f_Type, v8 s1.f_Code, .slice A5 (s1.f_Data).length c6]] ∧ F_trans_Right_j7 s1 = some r) ?_ ?_
   ·replace hM := hM.drewN 1
    refine KC.draw [] [5, 7] [3, 5, 7] [0, 2, 4, 6] (.cons 0 (.cons 1 (.cons 2 (.cons 4 (.alt 3 (.ofList [5, 6, 7]) 5 (.ofList [3, 6, 7])))))) moP (by kernel_rfl) ?_
    refine RD.p rfl rfl rfl rfl (fun w' => O.fldA fl26_0 (by decide) rfl) ?_
    refine RD.q rfl rfl rfl rfl (fun w' hf => O.load sc5 rfl (Cs.adds [0] ((hM.bx (i := 0) rfl).fut hf) rfl)) ?_
    refine RD.p rfl rfl rfl rfl (fun w' => O.fldA fl26_11 (by decide) rfl) ?_
    refine RD.p rfl rfl rfl rfl (fun w' => O.fldA fl26_0 (by decide) rfl) ?_
    refine RD.alt ?_ ?_
    ·refine RD.mq rfl rfl (O.load sc24 rfl (Cs.adds [11] ((hM.bx (i := 0) rfl)) rfl)) rfl ?_
     refine RD.meffs rfl rfl rfl (E.stB (j := 2) (off := 0) (vs := [v8 s1.f_Proto]) (cs' := [v8 s1.f_Proto, v16 0, v16 0, v32 0, v32 0, v8 0, v16 0, v16 0, .slice none 0 0, v8 s1.f_Type, v8 s1.f_Code, .slice none 0 0]) hM rfl sz5 rfl (adds_eq [0] rfl) rfl rfl (One.all rfl) rfl rfl) fun w176 hM1 => ?_
     clear hM
     have hM := hM1
     clear hM1
     refine RD.p rfl rfl rfl rfl (fun w' => O.fldA fl26_11 (by decide) rfl) ?_
     refine RD.meffs rfl rfl rfl (E.stB (j := 2) (off := 11) (vs := [.slice A5 (s1.f_Data).length c6]) (cs' := [v8 s1.f_Proto, v16 0, v16 0, v32 0, v32 0, v8 0, v16 0, v16 0, .slice none 0 0, v8 s1.f_Type, v8 s1.f_Code, .slice A5 (s1.f_Data).length c6]) hM rfl sz24 rfl (adds_eq [11] rfl) rfl rfl (One.all rfl) rfl rfl) fun w177 hM1 => ?_
     clear hM
     have hM := hM1
     clear hM1
     refine RD.nil ?_
     refine KQ.then_k ?_
     exact fun a ha => ⟨ha.less (less_cons rfl (less_cons rfl (less_cons rfl less_nil))), hM, hF⟩
    refine RD.meffs rfl rfl rfl (E.stB (j := 2) (off := 0) (vs := [v8 s1.f_Proto]) (cs' := [v8 s1.f_Proto, v16 0, v16 0, v32 0, v32 0, v8 0, v16 0, v16 0, .slice none 0 0, v8 s1.f_Type, v8 s1.f_Code, .slice none 0 0]) hM rfl sz5 rfl (adds_eq [0] rfl) rfl rfl (One.all rfl) rfl rfl) fun w178 hM1 => ?_
    clear hM
    have hM := hM1
    clear hM1
    refine RD.mq rfl rfl (O.load sc24 rfl (Cs.adds [11] ((hM.bx (i := 0) rfl)) rfl)) rfl ?_
    refine RD.p rfl rfl rfl rfl (fun w' => O.fldA fl26_11 (by decide) rfl) ?_
    refine RD.meffs rfl rfl rfl (E.stB (j := 2) (off := 11) (vs := [.slice A5 (s1.f_Data).length c6]) (cs' := [v8 s1.f_Proto, v16 0, v16 0, v32 0, v32 0, v8 0, v16 0, v16 0, .slice none 0 0, v8 s1.f_Type, v8 s1.f_Code, .slice A5 (s1.f_Data).length c6]) hM rfl sz24 rfl (adds_eq [11] rfl) rfl rfl (One.all rfl) rfl rfl) fun w179 hM1 => ?_
    clear hM
    have hM := hM1
    clear hM1
    refine RD.nil ?_
    refine KQ.then_k ?_
    exact fun a ha => ⟨ha.less (less_cons rfl (less_cons rfl (less_cons rfl less_nil))), hM, hF⟩
   rintro a w183 ⟨ha, hM, hF⟩
   refine KC.app ha ?_
   clear ha
   unfold F_trans_Right_j7 at hF
   refine KC.cut (fun a w197 => ∃ (t196 : Bool), Kn 47 [(2, vB t196)] a ∧ Mem w [] w197 [] ∧ F_trans_Right_j8 t196 = some r) ?_ ?_
   ·refine KC.region ?_
    refine RL.val (O.loadN (cs := [v8 s1.f_Proto, v16 s1.f_Src, v16 s1.f_Dst, v32 s1.f_Seq, v32 s1.f_Ack, v8 s1.f_Flags, v16 s1.f_Window, v16 s1.f_Urgent, .slice A2 (s1.f_Options).length c3, v8 s1.f_Type, v8 s1.f_Code, .slice A5 (s1.f_Data).length c6]) ag26 rfl (Cs.addsN [] ((hM.bx (i := 0) rfl)) rfl)) rfl ?_
    refine RL.val (O.loadN (cs := [v8 s1.f_Proto, v16 0, v16 0, v32 0, v32 0, v8 0, v16 0, v16 0, .slice none 0 0, v8 s1.f_Type, v8 s1.f_Code, .slice A5 (s1.f_Data).length c6]) ag26 rfl (Cs.addsN [] ((hM.bx (i := 2) rfl)) rfl)) rfl ?_
    refine obindE hF fun y184 hx185 hF => ?_
    refine RL.call Try.func15 bd15 rfl rfl (c_trans_Same _ s1 _ _ (hM.inp hr4 Off.nil) _ _ (hM.inp hr7 Off.nil) (T_trans_Segment.mk s1.f_Proto 0 0 0 0 0 0 0 ([]) s1.f_Type s1.f_Code s1.f_Data) none 0 Rd.nilr _ _ (hM.inp hr7 Off.nil) _ hx185) fun v w186 hv => ?_
    obtain ⟨rfl, hN187⟩ := hv
    replace hM := hM.call0 hN187
    refine vm rfl rfl ?_
    refine RL.bcase (t := 28) rfl (fun hc => ?_) (fun hc => ?_)
    ·rw [if_pos hc] at hF
     refine RL.gval rfl rfl (O.fldA fl26_8 (by decide) rfl) rfl ?_
     refine RL.gval rfl rfl (O.load sc24 rfl (Cs.adds [8] ((hM.bx (i := 0) rfl)) rfl)) rfl ?_
     refine RL.gval rfl rfl (O.len sl24 rfl) rfl ?_
     refine RL.gval rfl rfl (O.rem rfl rfl (by decide)) rfl ?_
     refine RL.gval rfl rfl (O.eql rfl rfl) rfl ?_
     refine RL.val (O.pickt rfl rfl) rfl ?_
     refine vm rfl rfl ?_
     refine RL.bcase (t := 35) rfl (fun hc => ?_) (fun hc => ?_)
     ·rw [if_pos hc] at hF
      refine RL.gval rfl rfl (O.fldA fl26_8 (by decide) rfl) rfl ?_
      refine RL.gval rfl rfl (O.load sc24 rfl (Cs.adds [8] ((hM.bx (i := 0) rfl)) rfl)) rfl ?_
      refine RL.gval rfl rfl (O.len sl24 rfl) rfl ?_
      refine RL.gval rfl rfl (O.leq rfl rfl) rfl ?_
      refine RL.val (O.pickt rfl rfl) rfl ?_
      refine vm rfl rfl ?_
      refine RL.bcase (t := 41) rfl (fun hc => ?_) (fun hc => ?_)
      ·rw [if_pos hc] at hF
       refine RL.gval rfl rfl (O.loadN (cs := [vI 4, vI 2, .func (.func 46) #[] #[], .func (.func 47) #[] #[], .func (.func 48) #[] #[]]) ag62 rfl (Cs.addsN [] ((hM.bx (i := 1) rfl)) rfl)) rfl ?_
       refine RL.gval rfl rfl (O.loadN (cs := [v8 s1.f_Proto, v16 s1.f_Src, v16 s1.f_Dst, v32 s1.f_Seq, v32 s1.f_Ack, v8 s1.f_Flags, v16 s1.f_Window, v16 s1.f_Urgent, .slice A2 (s1.f_Options).length c3, v8 s1.f_Type, v8 s1.f_Code, .slice A5 (s1.f_Data).length c6]) ag26 rfl (Cs.addsN [] ((hM.bx (i := 0) rfl)) rfl)) rfl ?_
       refine RL.gicall rfl rfl Try.func32 bd32 rfl rfl rfl Try.ntmps32 rfl ?_
       refine sr fun Q188 hQ188 => ?_
       refine RL.eff (E.box (vs := [vI 4, vI 2, .func (.func 46) #[] #[], .func (.func 47) #[] #[], .func (.func 48) #[] #[]]) hM rfl rfl) rfl fun v w190 hv => ?_
       clear hM
       obtain ⟨g189, rfl, hM, hf⟩ := hv
       refine RL.eff (E.box (vs := [v8 s1.f_Proto, v16 s1.f_Src, v16 s1.f_Dst, v32 s1.f_Seq, v32 s1.f_Ack, v8 s1.f_Flags, v16 s1.f_Window, v16 s1.f_Urgent, .slice A2 (s1.f_Options).length c3, v8 s1.f_Type, v8 s1.f_Code, .slice A5 (s1.f_Data).length c6]) hM rfl rfl) rfl fun v w193 hv => ?_
       clear hM
       obtain ⟨g192, rfl, hM, hf⟩ := hv
       refine va rfl rfl ?_
       refine nt hQ188 ?_
       clear hQ188 Q188
       refine sr fun Q195 hQ195 => ?_
       refine RL.val (O.fldA fl62_0 (by decide) rfl) rfl ?_
       refine RL.val (O.load sc3 rfl (Cs.adds [0] ((hM.bx (i := 3) rfl)) rfl)) rfl ?_
       refine RL.val (O.fldA fl26_8 (by decide) rfl) rfl ?_
       refine RL.val (O.load sc24 rfl (Cs.adds [8] ((hM.bx (i := 4) rfl)) rfl)) rfl ?_
       refine RL.val (O.len sl24 rfl) rfl ?_
       refine RL.val (O.add rfl rfl) rfl ?_
       refine RL.val (O.fldA fl26_11 (by decide) rfl) rfl ?_
       refine RL.val (O.load sc24 rfl (Cs.adds [11] ((hM.bx (i := 4) rfl)) rfl)) rfl ?_
       refine RL.val (O.len sl24 rfl) rfl ?_
       refine RL.val (O.add rfl rfl) rfl ?_
       refine va rfl rfl ?_
       refine nt hQ195 ?_
       clear hQ195 Q195
       refine KC.ret ?_
       refine KQ.rets Try.results32 (RVs.cons (RV.tm rfl) RVs.nil) ?_
       refine ⟨.int .i64 (IntKind.i64.wrap ((IntKind.i64.wrap (4 + (s1.f_Options.length : Int))) + (s1.f_Data.length : Int))), rfl, ?_⟩
       refine RL.gval rfl rfl (O.leq rfl rfl) rfl ?_
       refine RL.val (O.pickt rfl rfl) rfl ?_
       refine va rfl rfl ?_
       refine RL.nil ?_
       refine KQ.then_k ?_
       replace hM := hM.pick [] rfl (by decide)
       exact fun a ha => ⟨(decide ((IntKind.i64.wrap ((IntKind.i64.wrap (4 + (s1.f_Options.length : Int))) + (s1.f_Data.length : Int))) ≤ 65535)), ha.less (less_cons rfl less_nil), hM, hF⟩
      rw [if_neg (ne_true hc)] at hF
      refine RL.brun1 5 46 false (by kernel_rfl) ?_
      refine va rfl rfl ?_
      refine RL.nil ?_
      refine KQ.then_k ?_
      replace hM := hM.pick [] rfl (by decide)
      exact fun a ha => ⟨false, ha.less (less_cons rfl less_nil), hM, hF⟩
     rw [if_neg (ne_true hc)] at hF
     refine RL.brun1 11 46 false (by kernel_rfl) ?_
     refine va rfl rfl ?_
     refine RL.nil ?_
     refine KQ.then_k ?_
     replace hM := hM.pick [] rfl (by decide)
     exact fun a ha => ⟨false, ha.less (less_cons rfl less_nil), hM, hF⟩
    rw [if_neg (ne_true hc)] at hF
    refine RL.brun1 18 46 false (by kernel_rfl) ?_
    refine va rfl rfl ?_
    refine RL.nil ?_
    refine KQ.then_k ?_
    replace hM := hM.pick [] rfl (by decide)
    exact fun a ha => ⟨false, ha.less (less_cons rfl less_nil), hM, hF⟩
   rintro a w197 ⟨t196, ha, hM, hF⟩
   refine KC.app ha ?_
   clear ha
   unfold F_trans_Right_j8 at hF
   refine KC.ret ?_
   have hE := Option.some.inj hF
   clear hF
   subst hE
   refine KQ.rets Try.results13 (RVs.cons (RV.tm rfl) RVs.nil) ?_
   exact ⟨_, rfl, rfl, hM⟩
  rw [if_neg hk154] at hF
  refine RD.q rfl rfl rfl rfl (fun w' hf => O.lkF (cs := [vI 0, vI 0, Value.nilFunc, Value.nilFunc, Value.nilFunc]) ((hM.mapAt (i := 1) rfl).fut hf) Try.underlying64 Try.underlying5 (by kernel_rfl) rfl rfl (lk_miss hk19 (lk_miss hk66 (lk_miss hk110 (lk_miss hk154 (lk_nil)))))) ?_
  refine RD.p rfl rfl rfl rfl (fun w' => O.move rfl) ?_
  refine RD.p rfl rfl rfl rfl (fun w' => O.ext rfl rfl) ?_
  refine RD.p rfl rfl rfl rfl (fun w' => O.ext rfl rfl) ?_
  refine RD.meff rfl rfl (E.alloc hM ze62) rfl fun v w200 hv => ?_
  clear hM
  obtain ⟨g199, rfl, hM, hf⟩ := hv
  refine ⟨fun _ => hf, ?_⟩
  refine RD.meffs rfl rfl rfl (E.stB (j := 2) (off := 0) (vs := [vI 0, vI 0, Value.nilFunc, Value.nilFunc, Value.nilFunc]) (cs' := [vI 0, vI 0, Value.nilFunc, Value.nilFunc, Value.nilFunc]) hM rfl sz62 rfl (adds_eq [] rfl) rfl rfl (One.all rfl) rfl rfl) fun w202 hM1 => ?_
  clear hM
  have hM := hM1
  clear hM1
  refine RD.p rfl rfl rfl rfl (fun w' => O.assign rfl) ?_
  refine RD.nil ?_
  refine KQ.thn hQ12 ?_
  clear hQ12 Q12
  refine KC.seqH fun Q203 hQ203 => ?_
  refine sr fun Q204 hQ204 => ?_
  refine vm rfl rfl ?_
  refine RL.val (O.not rfl) rfl ?_
  refine nt hQ204 ?_
  clear hQ204 Q204
  refine KC.condT rfl ?_
  refine sr fun Q205 hQ205 => ?_
  refine va rfl rfl ?_
  refine nt hQ205 ?_
  clear hQ205 Q205
  refine KC.ret ?_
  refine KQ.thr hQ203 ?_
  clear hQ203 Q203
  have hE := Option.some.inj hF
  clear hF
  subst hE
  replace hM := hM.pick [] rfl (by decide)
  refine KQ.rets Try.results13 (RVs.cons (RV.tm rfl) RVs.nil) ?_
  exact ⟨_, rfl, rfl, hM⟩
 refine RD.meff rfl rfl (E.alloc hM ze62) rfl fun v w207 hv => ?_
 clear hM
 obtain ⟨g206, rfl, hM, hf⟩ := hv
 refine ⟨fun _ => hf, ?_⟩
 refine obindE hF fun y209 hx210 hF => ?_
 refine RD.mcall rfl rfl trivial Try.func30 bd30 rfl rfl (c_trans_protocols _ _ hx210) fun v w211 hv => ?_
 obtain ⟨g213, rfl, hN212⟩ := hv
 refine ⟨fun _ => hN212.fut, ?_⟩
 replace hM := hM.call hN212
 by_cases hk215 : (s1.f_Proto == 6) = true
 ·rw [if_pos hk215] at hF
  refine RD.q rfl rfl rfl rfl (fun w' hf => O.lkT ((hM.mapAt (i := 2) rfl).fut hf) Try.underlying64 Try.underlying5 rfl rfl (lk_hit hk215)) ?_
  refine RD.p rfl rfl rfl rfl (fun w' => O.move rfl) ?_
  refine RD.p rfl rfl rfl rfl (fun w' => O.ext rfl rfl) ?_
  refine RD.p rfl rfl rfl rfl (fun w' => O.ext rfl rfl) ?_
  refine RD.meffs rfl rfl rfl (E.stB (j := 1) (off := 0) (vs := [vI 20, vI 16, .func (.func 49) #[] #[], .func (.func 50) #[] #[], .func (.func 51) #[] #[]]) (cs' := [vI 20, vI 16, .func (.func 49) #[] #[], .func (.func 50) #[] #[], .func (.func 51) #[] #[]]) hM rfl sz62 rfl (adds_eq [] rfl) rfl rfl (One.all rfl) rfl rfl) fun w216 hM1 => ?_
  clear hM
  have hM := hM1
  clear hM1
  refine RD.p rfl rfl rfl rfl (fun w' => O.assign rfl) ?_
  refine RD.nil ?_
  refine KQ.thn hQ12 ?_
  clear hQ12 Q12
  refine KC.seqH fun Q217 hQ217 => ?_
  refine sr fun Q218 hQ218 => ?_
  refine vm rfl rfl ?_
  refine RL.val (O.not rfl) rfl ?_
  refine nt hQ218 ?_
  clear hQ218 Q218
  refine KC.condF rfl ?_
  refine KC.skip ?_
  refine KQ.thn hQ217 ?_
  clear hQ217 Q217
  refine sr fun Q219 hQ219 => ?_
  refine RL.val (O.fldA fl62_2 (by decide) rfl) rfl ?_
  refine RL.val (O.load sc58 rfl (Cs.adds [2] ((hM.bx (i := 1) rfl)) rfl)) rfl ?_
  refine RL.val (O.loadN (cs := [v8 s1.f_Proto, v16 s1.f_Src, v16 s1.f_Dst, v32 s1.f_Seq, v32 s1.f_Ack, v8 s1.f_Flags, v16 s1.f_Window, v16 s1.f_Urgent, .slice A2 (s1.f_Options).length c3, v8 s1.f_Type, v8 s1.f_Code, .slice A5 (s1.f_Data).length c6]) ag26 rfl (Cs.addsN [] ((hM.bx (i := 0) rfl)) rfl)) rfl ?_
  refine RL.icallv (first := []) (captured := []) rfl Try.func49 bd49 rfl rfl rfl Try.ntmps49 rfl ?_
  refine sr fun Q220 hQ220 => ?_
  refine RL.eff (E.box (vs := [v8 s1.f_Proto, v16 s1.f_Src, v16 s1.f_Dst, v32 s1.f_Seq, v32 s1.f_Ack, v8 s1.f_Flags, v16 s1.f_Window, v16 s1.f_Urgent, .slice A2 (s1.f_Options).length c3, v8 s1.f_Type, v8 s1.f_Code, .slice A5 (s1.f_Data).length c6]) hM rfl rfl) rfl fun v w222 hv => ?_
  clear hM
  obtain ⟨g221, rfl, hM, hf⟩ := hv
  refine RL.eff (E.alloc hM ze26) rfl fun v w225 hv => ?_
  clear hM
  obtain ⟨g224, rfl, hM, hf⟩ := hv
  refine nt hQ220 ?_
  clear hQ220 Q220
  replace hM := hM.pick [0, 1, 3, 4] rfl (by decide)
  refine sr fun Q227 hQ227 => ?_
  refine RL.val (O.fldA fl26_9 (by decide) rfl) rfl ?_
  refine RL.effs (E.stB (j := 2) (off := 9) (vs := [v8 0]) (cs' := [v8 s1.f_Proto, v16 s1.f_Src, v16 s1.f_Dst, v32 s1.f_Seq, v32 s1.f_Ack, v8 s1.f_Flags, v16 s1.f_Window, v16 s1.f_Urgent, .slice A2 (s1.f_Options).length c3, v8 0, v8 s1.f_Code, .slice A5 (s1.f_Data).length c6]) hM rfl sz5 rfl (adds_eq [9] rfl) rfl rfl (One.all rfl) rfl rfl) fun w228 hM1 => ?_
  clear hM
  have hM := hM1
  clear hM1
  refine RL.val (O.fldA fl26_10 (by decide) rfl) rfl ?_
  refine RL.effs (E.stB (j := 2) (off := 10) (vs := [v8 0]) (cs' := [v8 s1.f_Proto, v16 s1.f_Src, v16 s1.f_Dst, v32 s1.f_Seq, v32 s1.f_Ack, v8 s1.f_Flags, v16 s1.f_Window, v16 s1.f_Urgent, .slice A2 (s1.f_Options).length c3, v8 0, v8 0, .slice A5 (s1.f_Data).length c6]) hM rfl sz5 rfl (adds_eq [10] rfl) rfl rfl (One.all rfl) rfl rfl) fun w229 hM1 => ?_
  clear hM
  have hM := hM1
  clear hM1
  refine nt hQ227 ?_
  clear hQ227 Q227
  refine sr fun Q230 hQ230 => ?_
  refine RL.val (O.loadN (cs := [v8 s1.f_Proto, v16 s1.f_Src, v16 s1.f_Dst, v32 s1.f_Seq, v32 s1.f_Ack, v8 s1.f_Flags, v16 s1.f_Window, v16 s1.f_Urgent, .slice A2 (s1.f_Options).length c3, v8 0, v8 0, .slice A5 (s1.f_Data).length c6]) ag26 rfl (Cs.addsN [] ((hM.bx (i := 2) rfl)) rfl)) rfl ?_
  refine RL.effs (E.stB (j := 3) (off := 0) (vs := [v8 s1.f_Proto, v16 s1.f_Src, v16 s1.f_Dst, v32 s1.f_Seq, v32 s1.f_Ack, v8 s1.f_Flags, v16 s1.f_Window, v16 s1.f_Urgent, .slice A2 (s1.f_Options).length c3, v8 0, v8 0, .slice A5 (s1.f_Data).length c6]) (cs' := [v8 s1.f_Proto, v16 s1.f_Src, v16 s1.f_Dst, v32 s1.f_Seq, v32 s1.f_Ack, v8 s1.f_Flags, v16 s1.f_Window, v16 s1.f_Urgent, .slice A2 (s1.f_Options).length c3, v8 0, v8 0, .slice A5 (s1.f_Data).length c6]) hM rfl sz26 rfl (adds_eq [] rfl) rfl rfl (One.all rfl) rfl rfl) fun w231 hM1 => ?_
  clear hM
  have hM := hM1
  clear hM1
  refine nt hQ230 ?_
  clear hQ230 Q230
  refine KC.ret ?_
  have hb232 := hM.bx (i := 3) rfl
  refine KQ.rets Try.results49 (RVs.cons (RV.cN (cs := [v8 s1.f_Proto, v16 s1.f_Src, v16 s1.f_Dst, v32 s1.f_Seq, v32 s1.f_Ack, v8 s1.f_Flags, v16 s1.f_Window, v16 s1.f_Urgent, .slice A2 (s1.f_Options).length c3, v8 0, v8 0, .slice A5 (s1.f_Data).length c6]) rfl ag26 hb232) RVs.nil) ?_
  refine ⟨.agg #[v8 s1.f_Proto, v16 s1.f_Src, v16 s1.f_Dst, v32 s1.f_Seq, v32 s1.f_Ack, v8 s1.f_Flags, v16 s1.f_Window, v16 s1.f_Urgent, .slice A2 (s1.f_Options).length c3, v8 0, v8 0, .slice A5 (s1.f_Data).length c6], rfl, ?_⟩
  refine RL.eff (E.alloc hM ze26) rfl fun v w234 hv => ?_
  clear hM
  obtain ⟨g233, rfl, hM, hf⟩ := hv
  refine RL.effs (E.stB (j := 4) (off := 0) (vs := [v8 s1.f_Proto, v16 s1.f_Src, v16 s1.f_Dst, v32 s1.f_Seq, v32 s1.f_Ack, v8 s1.f_Flags, v16 s1.f_Window, v16 s1.f_Urgent, .slice A2 (s1.f_Options).length c3, v8 0, v8 0, .slice A5 (s1.f_Data).length c6]) (cs' := [v8 s1.f_Proto, v16 s1.f_Src, v16 s1.f_Dst, v32 s1.f_Seq, v32 s1.f_Ack, v8 s1.f_Flags, v16 s1.f_Window, v16 s1.f_Urgent, .slice A2 (s1.f_Options).length c3, v8 0, v8 0, .slice A5 (s1.f_Data).length c6]) hM rfl sz26 rfl (adds_eq [] rfl) rfl rfl (One.all rfl) rfl rfl) fun w236 hM1 => ?_
  clear hM
  have hM := hM1
  clear hM1
  refine nt hQ219 ?_
  clear hQ219 Q219
  replace hM := hM.pick [0, 1, 4] rfl (by decide)
  refine KC.cut (fun a w244 => Kn 47 [(1, .pointer (some ⟨g9, 0, none⟩)), (3, .pointer (some ⟨g206, 0, none⟩)), (5, .pointer (some ⟨g233, 0, none⟩))] a ∧ Mem w [] w244 [.box g9 26 [v8 s1.f_Proto, v16 s1.f_Src, v16 s1.f_Dst, v32 s1.f_Seq, v32 s1.f_Ack, v8 s1.f_Flags, v16 s1.f_Window, v16 s1.f_Urgent, .slice A2 (s1.f_Options).length c3, v8 s1.f_Type, v8 s1.f_Code, .slice A5 (s1.f_Data).length c6], .box g206 62 [vI 20, vI 16, .func (.func 49) #[] #[], .func (.func 50) #[] #[], .func (.func 51) #[] #[]], .box g233 26 [v8 s1.f_Proto, v16 s1.f_Src, v16 s1.f_Dst, v32 s1.f_Seq, v32 s1.f_Ack, v8 s1.f_Flags, v16 s1.f_Window, v16 s1.f_Urgent, .slice A2 (s1.f_Options).length c3, v8 0, v8 0, .slice A5 (s1.f_Data).length c6]] ∧ F_trans_Right_j1 s1 = some r) ?_ ?_
  ·replace hM := hM.drewN 1
   refine KC.draw [] [5, 7] [3, 5, 7] [0, 2, 4, 6] (.cons 0 (.cons 1 (.cons 2 (.cons 4 (.alt 3 (.ofList [5, 6, 7]) 5 (.ofList [3, 6, 7])))))) moP (by kernel_rfl) ?_
   refine RD.p rfl rfl rfl rfl (fun w' => O.fldA fl26_0 (by decide) rfl) ?_
   refine RD.q rfl rfl rfl rfl (fun w' hf => O.load sc5 rfl (Cs.adds [0] ((hM.bx (i := 0) rfl).fut hf) rfl)) ?_
   refine RD.p rfl rfl rfl rfl (fun w' => O.fldA fl26_11 (by decide) rfl) ?_
   refine RD.p rfl rfl rfl rfl (fun w' => O.fldA fl26_0 (by decide) rfl) ?_
   refine RD.alt ?_ ?_
   ·refine RD.mq rfl rfl (O.load sc24 rfl (Cs.adds [11] ((hM.bx (i := 0) rfl)) rfl)) rfl ?_
    refine RD.meffs rfl rfl rfl (E.stB (j := 2) (off := 0) (vs := [v8 s1.f_Proto]) (cs' := [v8 s1.f_Proto, v16 s1.f_Src, v16 s1.f_Dst, v32 s1.f_Seq, v32 s1.f_Ack, v8 s1.f_Flags, v16 s1.f_Window, v16 s1.f_Urgent, .slice A2 (s1.f_Options).length c3, v8 0, v8 0, .slice A5 (s1.f_Data).length c6]) hM rfl sz5 rfl (adds_eq [0] rfl) rfl rfl (One.all rfl) rfl rfl) fun w237 hM1 => ?_
    clear hM
    have hM := hM1
    clear hM1
    refine RD.p rfl rfl rfl rfl (fun w' => O.fldA fl26_11 (by decide) rfl) ?_
    refine RD.meffs rfl rfl rfl (E.stB (j := 2) (off := 11) (vs := [.slice A5 (s1.f_Data).length c6]) (cs' := [v8 s1.f_Proto, v16 s1.f_Src, v16 s1.f_Dst, v32 s1.f_Seq, v32 s1.f_Ack, v8 s1.f_Flags, v16 s1.f_Window, v16 s1.f_Urgent, .slice A2 (s1.f_Options).length c3, v8 0, v8 0, .slice A5 (s1.f_Data).length c6]) hM rfl sz24 rfl (adds_eq [11] rfl) rfl rfl (One.all rfl) rfl rfl) fun w238 hM1 => ?_
    clear hM
    have hM := hM1
    clear hM1
    refine RD.nil ?_
    refine KQ.then_k ?_
    exact fun a ha => ⟨ha.less (less_cons rfl (less_cons rfl (less_cons rfl less_nil))), hM, hF⟩
   refine RD.meffs rfl rfl rfl (E.stB (j := 2) (off := 0) (vs := [v8 s1.f_Proto]) (cs' := [v8 s1.f_Proto, v16 s1.f_Src, v16 s1.f_Dst, v32 s1.f_Seq, v32 s1.f_Ack, v8 s1.f_Flags, v16 s1.f_Window, v16 s1.f_Urgent, .slice A2 (s1.f_Options).length c3, v8 0, v8 0, .slice A5 (s1.f_Data).length c6]) hM rfl sz5 rfl (adds_eq [0] rfl) rfl rfl (One.all rfl) rfl rfl) fun w239 hM1 => ?_
   clear hM
   have hM := hM1
   clear hM1
   refine RD.mq rfl rfl (O.load sc24 rfl (Cs.adds [11] ((hM.bx (i := 0) rfl)) rfl)) rfl ?_
   refine RD.p rfl rfl rfl rfl (fun w' => O.fldA fl26_11 (by decide) rfl) ?_
   refine RD.meffs rfl rfl rfl (E.stB (j := 2) (off := 11) (vs := [.slice A5 (s1.f_Data).length c6]) (cs' := [v8 s1.f_Proto, v16 s1.f_Src, v16 s1.f_Dst, v32 s1.f_Seq, v32 s1.f_Ack, v8 s1.f_Flags, v16 s1.f_Window, v16 s1.f_Urgent, .slice A2 (s1.f_Options).length c3, v8 0, v8 0, .slice A5 (s1.f_Data).length c6]) hM rfl sz24 rfl (adds_eq [11] rfl) rfl rfl (One.all rfl) rfl rfl) fun w240 hM1 => ?_
   clear hM
   have hM := hM1
   clear hM1
   refine RD.nil ?_
   refine KQ.then_k ?_
   exact fun a ha => ⟨ha.less (less_cons rfl (less_cons rfl (less_cons rfl less_nil))), hM, hF⟩
  rintro a w244 ⟨ha, hM, hF⟩
  refine KC.app ha ?_
  clear ha
  unfold F_trans_Right_j1 at hF
  refine KC.cut (fun a w258 => ∃ (t257 : Bool), Kn 47 [(2, vB t257)] a ∧ Mem w [] w258 [] ∧ F_trans_Right_j2 t257 = some r) ?_ ?_
  ·refine KC.region ?_
   refine RL.val (O.loadN (cs := [v8 s1.f_Proto, v16 s1.f_Src, v16 s1.f_Dst, v32 s1.f_Seq, v32 s1.f_Ack, v8 s1.f_Flags, v16 s1.f_Window, v16 s1.f_Urgent, .slice A2 (s1.f_Options).length c3, v8 s1.f_Type, v8 s1.f_Code, .slice A5 (s1.f_Data).length c6]) ag26 rfl (Cs.addsN [] ((hM.bx (i := 0) rfl)) rfl)) rfl ?_
   refine RL.val (O.loadN (cs := [v8 s1.f_Proto, v16 s1.f_Src, v16 s1.f_Dst, v32 s1.f_Seq, v32 s1.f_Ack, v8 s1.f_Flags, v16 s1.f_Window, v16 s1.f_Urgent, .slice A2 (s1.f_Options).length c3, v8 0, v8 0, .slice A5 (s1.f_Data).length c6]) ag26 rfl (Cs.addsN [] ((hM.bx (i := 2) rfl)) rfl)) rfl ?_
   refine obindE hF fun y245 hx246 hF => ?_
   refine RL.call Try.func15 bd15 rfl rfl (c_trans_Same _ s1 _ _ (hM.inp hr4 Off.nil) _ _ (hM.inp hr7 Off.nil) (T_trans_Segment.mk s1.f_Proto s1.f_Src s1.f_Dst s1.f_Seq s1.f_Ack s1.f_Flags s1.f_Window s1.f_Urgent s1.f_Options 0 0 s1.f_Data) _ _ (hM.inp hr4 Off.nil) _ _ (hM.inp hr7 Off.nil) _ hx246) fun v w247 hv => ?_
   obtain ⟨rfl, hN248⟩ := hv
   replace hM := hM.call0 hN248
   refine vm rfl rfl ?_
   refine RL.bcase (t := 28) rfl (fun hc => ?_) (fun hc => ?_)
   ·rw [if_pos hc] at hF
    refine RL.gval rfl rfl (O.fldA fl26_8 (by decide) rfl) rfl ?_
    refine RL.gval rfl rfl (O.load sc24 rfl (Cs.adds [8] ((hM.bx (i := 0) rfl)) rfl)) rfl ?_
    refine RL.gval rfl rfl (O.len sl24 rfl) rfl ?_
    refine RL.gval rfl rfl (O.rem rfl rfl (by decide)) rfl ?_
    refine RL.gval rfl rfl (O.eql rfl rfl) rfl ?_
    refine RL.val (O.pickt rfl rfl) rfl ?_
    refine vm rfl rfl ?_
    refine RL.bcase (t := 35) rfl (fun hc => ?_) (fun hc => ?_)
    ·rw [if_pos hc] at hF
     refine RL.gval rfl rfl (O.fldA fl26_8 (by decide) rfl) rfl ?_
     refine RL.gval rfl rfl (O.load sc24 rfl (Cs.adds [8] ((hM.bx (i := 0) rfl)) rfl)) rfl ?_
     refine RL.gval rfl rfl (O.len sl24 rfl) rfl ?_
     refine RL.gval rfl rfl (O.leq rfl rfl) rfl ?_
     refine RL.val (O.pickt rfl rfl) rfl ?_
     refine vm rfl rfl ?_
     refine RL.bcase (t := 41) rfl (fun hc => ?_) (fun hc => ?_)
     ·rw [if_pos hc] at hF
      refine RL.gval rfl rfl (O.loadN (cs := [vI 20, vI 16, .func (.func 49) #[] #[], .func (.func 50) #[] #[], .func (.func 51) #[] #[]]) ag62 rfl (Cs.addsN [] ((hM.bx (i := 1) rfl)) rfl)) rfl ?_
      refine RL.gval rfl rfl (O.loadN (cs := [v8 s1.f_Proto, v16 s1.f_Src, v16 s1.f_Dst, v32 s1.f_Seq, v32 s1.f_Ack, v8 s1.f_Flags, v16 s1.f_Window, v16 s1.f_Urgent, .slice A2 (s1.f_Options).length c3, v8 s1.f_Type, v8 s1.f_Code, .slice A5 (s1.f_Data).length c6]) ag26 rfl (Cs.addsN [] ((hM.bx (i := 0) rfl)) rfl)) rfl ?_
      refine RL.gicall rfl rfl Try.func32 bd32 rfl rfl rfl Try.ntmps32 rfl ?_
      refine sr fun Q249 hQ249 => ?_
      refine RL.eff (E.box (vs := [vI 20, vI 16, .func (.func 49) #[] #[], .func (.func 50) #[] #[], .func (.func 51) #[] #[]]) hM rfl rfl) rfl fun v w251 hv => ?_
      clear hM
      obtain ⟨g250, rfl, hM, hf⟩ := hv
      refine RL.eff (E.box (vs := [v8 s1.f_Proto, v16 s1.f_Src, v16 s1.f_Dst, v32 s1.f_Seq, v32 s1.f_Ack, v8 s1.f_Flags, v16 s1.f_Window, v16 s1.f_Urgent, .slice A2 (s1.f_Options).length c3, v8 s1.f_Type, v8 s1.f_Code, .slice A5 (s1.f_Data).length c6]) hM rfl rfl) rfl fun v w254 hv => ?_
      clear hM
      obtain ⟨g253, rfl, hM, hf⟩ := hv
      refine va rfl rfl ?_
      refine nt hQ249 ?_
      clear hQ249 Q249
      refine sr fun Q256 hQ256 => ?_
      refine RL.val (O.fldA fl62_0 (by decide) rfl) rfl ?_
      refine RL.val (O.load sc3 rfl (Cs.adds [0] ((hM.bx (i := 3) rfl)) rfl)) rfl ?_
      refine RL.val (O.fldA fl26_8 (by decide) rfl) rfl ?_
      refine RL.val (O.load sc24 rfl (Cs.adds [8] ((hM.bx (i := 4) rfl)) rfl)) rfl ?_
      refine RL.val (O.len sl24 rfl) rfl ?_
      refine RL.val (O.add rfl rfl) rfl ?_
      refine RL.val (O.fldA fl26_11 (by decide) rfl) rfl ?_
      refine RL.val (O.load sc24 rfl (Cs.adds [11] ((hM.bx (i := 4) rfl)) rfl)) rfl ?_
      refine RL.val (O.len sl24 rfl) rfl ?_
      refine RL.val (O.add rfl rfl) rfl ?_
      refine va rfl rfl ?_
      refine nt hQ256 ?_
      clear hQ256 Q256
      refine KC.ret ?_
      refine KQ.rets Try.results32 (RVs.cons (RV.tm rfl) RVs.nil) ?_
      refine ⟨.int .i64 (IntKind.i64.wrap ((IntKind.i64.wrap (20 + (s1.f_Options.length : Int))) + (s1.f_Data.length : Int))), rfl, ?_⟩
      refine RL.gval rfl rfl (O.leq rfl rfl) rfl ?_
      refine RL.val (O.pickt rfl rfl) rfl ?_
      refine va rfl rfl ?_
      refine RL.nil ?_
      refine KQ.then_k ?_
      replace hM := hM.pick [] rfl (by decide)
      exact fun a ha => ⟨(decide ((IntKind.i64.wrap ((IntKind.i64.wrap (20 + (s1.f_Options.length : Int))) + (s1.f_Data.length : Int))) ≤ 65535)), ha.less (less_cons rfl less_nil), hM, hF⟩
     rw [if_neg (ne_true hc)] at hF
     refine RL.brun1 5 46 false (by kernel_rfl) ?_
     refine va rfl rfl ?_
     refine RL.nil ?_
     refine KQ.then_k ?_
     replace hM := hM.pick [] rfl (by decide)
     exact fun a ha => ⟨false, ha.less (less_cons rfl less_nil), hM, hF⟩
    rw [if_neg (ne_true hc)] at hF
    refine RL.brun1 11 46 false (by kernel_rfl) ?_
    refine va rfl rfl ?_
    refine RL.nil ?_
    refine KQ.then_k ?_
    replace hM := hM.pick [] rfl (by decide)
    exact fun a ha => ⟨false, ha.less (less_cons rfl less_nil), hM, hF⟩
   rw [if_neg (ne_true hc)] at hF
   refine RL.brun1 18 46 false (by kernel_rfl) ?_
   refine va rfl rfl ?_
   refine RL.nil ?_
   refine KQ.then_k ?_
   replace hM := hM.pick [] rfl (by decide)
   exact fun a ha => ⟨false, ha.less (less_cons rfl less_nil), hM, hF⟩
  rintro a w258 ⟨t257, ha, hM, hF⟩
  refine KC.app ha ?_
  clear ha
  unfold F_trans_Right_j2 at hF
  refine KC.ret ?_
  have hE := Option.some.inj hF
  clear hF
  subst hE
  refine KQ.rets Try.results13 (RVs.cons (RV.tm rfl) RVs.nil) ?_
  exact ⟨_, rfl, rfl, hM⟩
 rw [if_neg hk215] at hF
 by_cases hk259 : (s1.f_Proto == 17) = true
 ·rw [if_pos hk259] at hF
  refine RD.q rfl rfl rfl rfl (fun w' hf => O.lkT ((hM.mapAt (i := 2) rfl).fut hf) Try.underlying64 Try.underlying5 rfl rfl (lk_miss hk215 (lk_hit hk259))) ?_
  refine RD.p rfl rfl rfl rfl (fun w' => O.move rfl) ?_
  refine RD.p rfl rfl rfl rfl (fun w' => O.ext rfl rfl) ?_
  refine RD.p rfl rfl rfl rfl (fun w' => O.ext rfl rfl) ?_
  refine RD.meffs rfl rfl rfl (E.stB (j := 1) (off := 0) (vs := [vI 8, vI 6, .func (.func 52) #[] #[], .func (.func 53) #[] #[], .func (.func 54) #[] #[]]) (cs' := [vI 8, vI 6, .func (.func 52) #[] #[], .func (.func 53) #[] #[], .func (.func 54) #[] #[]]) hM rfl sz62 rfl (adds_eq [] rfl) rfl rfl (One.all rfl) rfl rfl) fun w260 hM1 => ?_
  clear hM
  have hM := hM1
  clear hM1
  refine RD.p rfl rfl rfl rfl (fun w' => O.assign rfl) ?_
  refine RD.nil ?_
  refine KQ.thn hQ12 ?_
  clear hQ12 Q12
  refine KC.seqH fun Q261 hQ261 => ?_
  refine sr fun Q262 hQ262 => ?_
  refine vm rfl rfl ?_
  refine RL.val (O.not rfl) rfl ?_
  refine nt hQ262 ?_
  clear hQ262 Q262
  refine KC.condF rfl ?_
  refine KC.skip ?_
  refine KQ.thn hQ261 ?_
  clear hQ261 Q261
  refine sr fun Q263 hQ263 => ?_
  refine RL.val (O.fldA fl62_2 (by decide) rfl) rfl ?_
  refine RL.val (O.load sc58 rfl (Cs.adds [2] ((hM.bx (i := 1) rfl)) rfl)) rfl ?_
  refine RL.val (O.loadN (cs := [v8 s1.f_Proto, v16 s1.f_Src, v16 s1.f_Dst, v32 s1.f_Seq, v32 s1.f_Ack, v8 s1.f_Flags, v16 s1.f_Window, v16 s1.f_Urgent, .slice A2 (s1.f_Options).length c3, v8 s1.f_Type, v8 s1.f_Code, .slice A5 (s1.f_Data).length c6]) ag26 rfl (Cs.addsN [] ((hM.bx (i := 0) rfl)) rfl)) rfl ?_
  refine RL.icallv (first := []) (captured := []) rfl Try.func52 bd52 rfl rfl rfl Try.ntmps52 rfl ?_
  refine sr fun Q264 hQ264 => ?_
  refine RL.eff (E.box (vs := [v8 s1.f_Proto, v16 s1.f_Src, v16 s1.f_Dst, v32 s1.f_Seq, v32 s1.f_Ack, v8 s1.f_Flags, v16 s1.f_Window, v16 s1.f_Urgent, .slice A2 (s1.f_Options).length c3, v8 s1.f_Type, v8 s1.f_Code, .slice A5 (s1.f_Data).length c6]) hM rfl rfl) rfl fun v w266 hv => ?_
  clear hM
  obtain ⟨g265, rfl, hM, hf⟩ := hv
  refine RL.eff (E.alloc hM ze26) rfl fun v w269 hv => ?_
  clear hM
  obtain ⟨g268, rfl, hM, hf⟩ := hv
  refine nt hQ264 ?_
  clear hQ264 Q264
  replace hM := hM.pick [0, 1, 3, 4] rfl (by decide)
  refine sr fun Q271 hQ271 => ?_
  refine RL.val (O.fldA fl26_1 (by decide) rfl) rfl ?_
  refine RL.val (O.load sc22 rfl (Cs.adds [1] ((hM.bx (i := 2) rfl)) rfl)) rfl ?_
  refine RL.val (O.fldA fl26_2 (by decide) rfl) rfl ?_
  refine RL.val (O.load sc22 rfl (Cs.adds [2] ((hM.bx (i := 2) rfl)) rfl)) rfl ?_
  refine RL.val (O.bld (cs := [v8 0, v16 s1.f_Src, v16 s1.f_Dst, v32 0, v32 0, v8 0, v16 0, v16 0, .slice none 0 0, v8 0, v8 0, .slice none 0 0]) bt26 rfl (by kernel_rfl)) rfl ?_
  refine RL.effs (E.stB (j := 3) (off := 0) (vs := [v8 0, v16 s1.f_Src, v16 s1.f_Dst, v32 0, v32 0, v8 0, v16 0, v16 0, .slice none 0 0, v8 0, v8 0, .slice none 0 0]) (cs' := [v8 0, v16 s1.f_Src, v16 s1.f_Dst, v32 0, v32 0, v8 0, v16 0, v16 0, .slice none 0 0, v8 0, v8 0, .slice none 0 0]) hM rfl sz26 rfl (adds_eq [] rfl) rfl rfl (One.all rfl) rfl rfl) fun w272 hM1 => ?_
  clear hM
  have hM := hM1
  clear hM1
  refine nt hQ271 ?_
  clear hQ271 Q271
  refine KC.ret ?_
  have hb273 := hM.bx (i := 3) rfl
  refine KQ.rets Try.results52 (RVs.cons (RV.cN (cs := [v8 0, v16 s1.f_Src, v16 s1.f_Dst, v32 0, v32 0, v8 0, v16 0, v16 0, .slice none 0 0, v8 0, v8 0, .slice none 0 0]) rfl ag26 hb273) RVs.nil) ?_
  refine ⟨.agg #[v8 0, v16 s1.f_Src, v16 s1.f_Dst, v32 0, v32 0, v8 0, v16 0, v16 0, .slice none 0 0, v8 0, v8 0, .slice none 0 0], rfl, ?_⟩
  refine RL.eff (E.alloc hM ze26) rfl fun v w275 hv => ?_
  clear hM
  obtain ⟨g274, rfl, hM, hf⟩ := hv
  refine RL.effs (E.stB (j := 4) (off := 0) (vs := [v8 0, v16 s1.f_Src, v16 s1.f_Dst, v32 0, v32 0, v8 0, v16 0, v16 0, .slice none 0 0, v8 0, v8 0, .slice none 0 0]) (cs' := [v8 0, v16 s1.f_Src, v16 s1.f_Dst, v32 0, v32 0, v8 0, v16 0, v16 0, .slice none 0 0, v8 0, v8 0, .slice none 0 0]) hM rfl sz26 rfl (adds_eq [] rfl) rfl rfl (One.all rfl) rfl rfl) fun w277 hM1 => ?_
  clear hM
  have hM := hM1
  clear hM1
  refine nt hQ263 ?_
  clear hQ263 Q263
  replace hM := hM.pick [0, 1, 4] rfl (by decide)
  refine KC.cut (fun a w285 => Kn 47 [(1, .pointer (some ⟨g9, 0, none⟩)), (3, .pointer (some ⟨g206, 0, none⟩)), (5, .pointer (some ⟨g274, 0, none⟩))] a ∧ Mem w [] w285 [.box g9 26 [v8 s1.f_Proto, v16 s1.f_Src, v16 s1.f_Dst, v32 s1.f_Seq, v32 s1.f_Ack, v8 s1.f_Flags, v16 s1.f_Window, v16 s1.f_Urgent, .slice A2 (s1.f_Options).length c3, v8 s1.f_Type, v8 s1.f_Code, .slice A5 (s1.f_Data).length c6], .box g206 62 [vI 8, vI 6, .func (.func 52) #[] #[], .func (.func 53) #[] #[], .func (.func 54) #[] #[]], .box g274 26 [v8 s1.f_Proto, v16 s1.f_Src, v16 s1.f_Dst, v32 0, v32 0, v8 0, v16 0, v16 0, .slice none 0 0, v8 0, v8 0, .slice A5 (s1.f_Data).length c6]] ∧ F_trans_Right_j3 s1 = some r) ?_ ?_
  ·replace hM := hM.drewN 1
   refine KC.draw [] [5, 7] [3, 5, 7] [0, 2, 4, 6] (.cons 0 (.cons 1 (.cons 2 (.cons 4 (.alt 3 (.ofList [5, 6, 7]) 5 (.ofList [3, 6, 7])))))) moP (by kernel_rfl) ?_
   refine RD.p rfl rfl rfl rfl (fun w' => O.fldA fl26_0 (by decide) rfl) ?_
   refine RD.q rfl rfl rfl rfl (fun w' hf => O.load sc5 rfl (Cs.adds [0] ((hM.bx (i := 0) rfl).fut hf) rfl)) ?_
   refine RD.p rfl rfl rfl rfl (fun w' => O.fldA fl26_11 (by decide) rfl) ?_
   refine RD.p rfl rfl rfl rfl (fun w' => O.fldA fl26_0 (by decide) rfl) ?_
   refine RD.alt ?_ ?_
   ·refine RD.mq rfl rfl (O.load sc24 rfl (Cs.adds [11] ((hM.bx (i := 0) rfl)) rfl)) rfl ?_
    refine RD.meffs rfl rfl rfl (E.stB (j := 2) (off := 0) (vs := [v8 s1.f_Proto]) (cs' := [v8 s1.f_Proto, v16 s1.f_Src, v16 s1.f_Dst, v32 0, v32 0, v8 0, v16 0, v16 0, .slice none 0 0, v8 0, v8 0, .slice none 0 0]) hM rfl sz5 rfl (adds_eq [0] rfl) rfl rfl (One.all rfl) rfl rfl) fun w278 hM1 => ?_
    clear hM
    have hM := hM1
    clear hM1
    refine RD.p rfl rfl rfl rfl (fun w' => O.fldA fl26_11 (by decide) rfl) ?_
    refine RD.meffs rfl rfl rfl (E.stB (j := 2) (off := 11) (vs := [.slice A5 (s1.f_Data).length c6]) (cs' := [v8 s1.f_Proto, v16 s1.f_Src, v16 s1.f_Dst, v32 0, v32 0, v8 0, v16 0, v16 0, .slice none 0 0, v8 0, v8 0, .slice A5 (s1.f_Data).length c6]) hM rfl sz24 rfl (adds_eq [11] rfl) rfl rfl (One.all rfl) rfl rfl) fun w279 hM1 => ?_
    clear hM
    have hM := hM1
    clear hM1
    refine RD.nil ?_
    refine KQ.then_k ?_
    exact fun a ha => ⟨ha.less (less_cons rfl (less_cons rfl (less_cons rfl less_nil))), hM, hF⟩
   refine RD.meffs rfl rfl rfl (E.stB (j := 2) (off := 0) (vs := [v8 s1.f_Proto]) (cs' := [v8 s1.f_Proto, v16 s1.f_Src, v16 s1.f_Dst, v32 0, v32 0, v8 0, v16 0, v16 0, .slice none 0 0, v8 0, v8 0, .slice none 0 0]) hM rfl sz5 rfl (adds_eq [0] rfl) rfl rfl (One.all rfl) rfl rfl) fun w280 hM1 => ?_
   clear hM
   have hM := hM1
   clear hM1
   refine RD.mq rfl rfl (O.load sc24 rfl (Cs.adds [11] ((hM.bx (i := 0) rfl)) rfl)) rfl ?_
   refine RD.p rfl rfl rfl rfl (fun w' => O.fldA fl26_11 (by decide) rfl) ?_
   refine RD.meffs rfl rfl rfl (E.stB (j := 2) (off := 11) (vs := [.slice A5 (s1.f_Data).length c6]) (cs' := [v8 s1.f_Proto, v16 s1.f_Src, v16 s1.f_Dst, v32 0, v32 0, v8 0, v16 0, v16 0, .slice none 0 0, v8 0, v8 0, .slice A5 (s1.f_Data).length c6]) hM rfl sz24 rfl (adds_eq [11] rfl) rfl rfl (One.all rfl) rfl rfl) fun w281 hM1 => ?_
   clear hM
   have hM := hM1
   clear hM1
   refine RD.nil ?_
   refine KQ.then_k ?_
   exact fun a ha => ⟨ha.less (less_cons rfl (less_cons rfl (less_cons rfl less_nil))), hM, hF⟩
  rintro a w285 ⟨ha, hM, hF⟩
  refine KC.app ha ?_
  clear ha
  unfold F_trans_Right_j3 at hF
  refine KC.cut (fun a w299 => ∃ (t298 : Bool), Kn 47 [(2, vB t298)] a ∧ Mem w [] w299 [] ∧ F_trans_Right_j4 t298 = some r) ?_ ?_
  ·refine KC.region ?_
   refine RL.val (O.loadN (cs := [v8 s1.f_Proto, v16 s1.f_Src, v16 s1.f_Dst, v32 s1.f_Seq, v32 s1.f_Ack, v8 s1.f_Flags, v16 s1.f_Window, v16 s1.f_Urgent, .slice A2 (s1.f_Options).length c3, v8 s1.f_Type, v8 s1.f_Code, .slice A5 (s1.f_Data).length c6]) ag26 rfl (Cs.addsN [] ((hM.bx (i := 0) rfl)) rfl)) rfl ?_
   refine RL.val (O.loadN (cs := [v8 s1.f_Proto, v16 s1.f_Src, v16 s1.f_Dst, v32 0, v32 0, v8 0, v16 0, v16 0, .slice none 0 0, v8 0, v8 0, .slice A5 (s1.f_Data).length c6]) ag26 rfl (Cs.addsN [] ((hM.bx (i := 2) rfl)) rfl)) rfl ?_
   refine obindE hF fun y286 hx287 hF => ?_
   refine RL.call Try.func15 bd15 rfl rfl (c_trans_Same _ s1 _ _ (hM.inp hr4 Off.nil) _ _ (hM.inp hr7 Off.nil) (T_trans_Segment.mk s1.f_Proto s1.f_Src s1.f_Dst 0 0 0 0 0 ([]) 0 0 s1.f_Data) none 0 Rd.nilr _ _ (hM.inp hr7 Off.nil) _ hx287) fun v w288 hv => ?_
   obtain ⟨rfl, hN289⟩ := hv
   replace hM := hM.call0 hN289
   refine vm rfl rfl ?_
   refine RL.bcase (t := 28) rfl (fun hc => ?_) (fun hc => ?_)
   ·rw [if_pos hc] at hF
    refine RL.gval rfl rfl (O.fldA fl26_8 (by decide) rfl) rfl ?_
    refine RL.gval rfl rfl (O.load sc24 rfl (Cs.adds [8] ((hM.bx (i := 0) rfl)) rfl)) rfl ?_
    refine RL.gval rfl rfl (O.len sl24 rfl) rfl ?_
    refine RL.gval rfl rfl (O.rem rfl rfl (by decide)) rfl ?_
    refine RL.gval rfl rfl (O.eql rfl rfl) rfl ?_
    refine RL.val (O.pickt rfl rfl) rfl ?_
    refine vm rfl rfl ?_
    refine RL.bcase (t := 35) rfl (fun hc => ?_) (fun hc => ?_)
    ·rw [if_pos hc] at hF
     refine RL.gval rfl rfl (O.fldA fl26_8 (by decide) rfl) rfl ?_
     refine RL.gval rfl rfl (O.load sc24 rfl (Cs.adds [8] ((hM.bx (i := 0) rfl)) rfl)) rfl ?_
     refine RL.gval rfl rfl (O.len sl24 rfl) rfl ?_
     refine RL.gval rfl rfl (O.leq rfl rfl) rfl ?_
     refine RL.val (O.pickt rfl rfl) rfl ?_
     refine vm rfl rfl ?_
     refine RL.bcase (t := 41) rfl (fun hc => ?_) (fun hc => ?_)
     ·rw [if_pos hc] at hF
      refine RL.gval rfl rfl (O.loadN (cs := [vI 8, vI 6, .func (.func 52) #[] #[], .func (.func 53) #[] #[], .func (.func 54) #[] #[]]) ag62 rfl (Cs.addsN [] ((hM.bx (i := 1) rfl)) rfl)) rfl ?_
      refine RL.gval rfl rfl (O.loadN (cs := [v8 s1.f_Proto, v16 s1.f_Src, v16 s1.f_Dst, v32 s1.f_Seq, v32 s1.f_Ack, v8 s1.f_Flags, v16 s1.f_Window, v16 s1.f_Urgent, .slice A2 (s1.f_Options).length c3, v8 s1.f_Type, v8 s1.f_Code, .slice A5 (s1.f_Data).length c6]) ag26 rfl (Cs.addsN [] ((hM.bx (i := 0) rfl)) rfl)) rfl ?_
      refine RL.gicall rfl rfl Try.func32 bd32 rfl rfl rfl Try.ntmps32 rfl ?_
      refine sr fun Q290 hQ290 => ?_
      refine RL.eff (E.box (vs := [vI 8, vI 6, .func (.func 52) #[] #[], .func (.func 53) #[] #[], .func (.func 54) #[] #[]]) hM rfl rfl) rfl fun v w292 hv => ?_
      clear hM
      obtain ⟨g291, rfl, hM, hf⟩ := hv
      refine RL.eff (E.box (vs := [v8 s1.f_Proto, v16 s1.f_Src, v16 s1.f_Dst, v32 s1.f_Seq, v32 s1.f_Ack, v8 s1.f_Flags, v16 s1.f_Window, v16 s1.f_Urgent, .slice A2 (s1.f_Options).length c3, v8 s1.f_Type, v8 s1.f_Code, .slice A5 (s1.f_Data).length c6]) hM rfl rfl) rfl fun v w295 hv => ?_
      clear hM
      obtain ⟨g294, rfl, hM, hf⟩ := hv
      refine va rfl rfl ?_
      refine nt hQ290 ?_
      clear hQ290 Q290
      refine sr fun Q297 hQ297 => ?_
      refine RL.val (O.fldA fl62_0 (by decide) rfl) rfl ?_
      refine RL.val (O.load sc3 rfl (Cs.adds [0] ((hM.bx (i := 3) rfl)) rfl)) rfl ?_
      refine RL.val (O.fldA fl26_8 (by decide) rfl) rfl ?_
      refine RL.val (O.load sc24 rfl (Cs.adds [8] ((hM.bx (i := 4) rfl)) rfl)) rfl ?_
      refine RL.val (O.len sl24 rfl) rfl ?_
      refine RL.val (O.add rfl rfl) rfl ?_
      refine RL.val (O.fldA fl26_11 (by decide) rfl) rfl ?_
      refine RL.val (O.load sc24 rfl (Cs.adds [11] ((hM.bx (i := 4) rfl)) rfl)) rfl ?_
      refine RL.val (O.len sl24 rfl) rfl ?_
      refine RL.val (O.add rfl rfl) rfl ?_
      refine va rfl rfl ?_
      refine nt hQ297 ?_
      clear hQ297 Q297
      refine KC.ret ?_
      refine KQ.rets Try.results32 (RVs.cons (RV.tm rfl) RVs.nil) ?_
      refine ⟨.int .i64 (IntKind.i64.wrap ((IntKind.i64.wrap (8 + (s1.f_Options.length : Int))) + (s1.f_Data.length : Int))), rfl, ?_⟩
      refine RL.gval rfl rfl (O.leq rfl rfl) rfl ?_
      refine RL.val (O.pickt rfl rfl) rfl ?_
      refine va rfl rfl ?_
      refine RL.nil ?_
      refine KQ.then_k ?_
      replace hM := hM.pick [] rfl (by decide)
      exact fun a ha => ⟨(decide ((IntKind.i64.wrap ((IntKind.i64.wrap (8 + (s1.f_Options.length : Int))) + (s1.f_Data.length : Int))) ≤ 65535)), ha.less (less_cons rfl less_nil), hM, hF⟩
     rw [if_neg (ne_true hc)] at hF
     refine RL.brun1 5 46 false (by kernel_rfl) ?_
     refine va rfl rfl ?_
     refine RL.nil ?_
     refine KQ.then_k ?_
     replace hM := hM.pick [] rfl (by decide)
     exact fun a ha => ⟨false, ha.less (less_cons rfl less_nil), hM, hF⟩
    rw [if_neg (ne_true hc)] at hF
    refine RL.brun1 11 46 false (by kernel_rfl) ?_
    refine va rfl rfl ?_
    refine RL.nil ?_
    refine KQ.then_k ?_
    replace hM := hM.pick [] rfl (by decide)
    exact fun a ha => ⟨false, ha.less (less_cons rfl less_nil), hM, hF⟩
   rw [if_neg (ne_true hc)] at hF
   refine RL.brun1 18 46 false (by kernel_rfl) ?_
   refine va rfl rfl ?_
   refine RL.nil ?_
   refine KQ.then_k ?_
   replace hM := hM.pick [] rfl (by decide)
   exact fun a ha => ⟨false, ha.less (less_cons rfl less_nil), hM, hF⟩
  rintro a w299 ⟨t298, ha, hM, hF⟩
  refine KC.app ha ?_
  clear ha
  unfold F_trans_Right_j4 at hF
  refine KC.ret ?_
  have hE := Option.some.inj hF
  clear hF
  subst hE
  refine KQ.rets Try.results13 (RVs.cons (RV.tm rfl) RVs.nil) ?_
  exact ⟨_, rfl, rfl, hM⟩
 rw [if_neg hk259] at hF
 by_cases hk300 : (s1.f_Proto == 1) = true
 ·rw [if_pos hk300] at hF
  refine RD.q rfl rfl rfl rfl (fun w' hf => O.lkT ((hM.mapAt (i := 2) rfl).fut hf) Try.underlying64 Try.underlying5 rfl rfl (lk_miss hk215 (lk_miss hk259 (lk_hit hk300)))) ?_
  refine RD.p rfl rfl rfl rfl (fun w' => O.move rfl) ?_
  refine RD.p rfl rfl rfl rfl (fun w' => O.ext rfl rfl) ?_
  refine RD.p rfl rfl rfl rfl (fun w' => O.ext rfl rfl) ?_
  refine RD.meffs rfl rfl rfl (E.stB (j := 1) (off := 0) (vs := [vI 4, vI 2, .func (.func 46) #[] #[], .func (.func 47) #[] #[], .func (.func 48) #[] #[]]) (cs' := [vI 4, vI 2, .func (.func 46) #[] #[], .func (.func 47) #[] #[], .func (.func 48) #[] #[]]) hM rfl sz62 rfl (adds_eq [] rfl) rfl rfl (One.all rfl) rfl rfl) fun w301 hM1 => ?_
  clear hM
  have hM := hM1
  clear hM1
  refine RD.p rfl rfl rfl rfl (fun w' => O.assign rfl) ?_
  refine RD.nil ?_
  refine KQ.thn hQ12 ?_
  clear hQ12 Q12
  refine KC.seqH fun Q302 hQ302 => ?_
  refine sr fun Q303 hQ303 => ?_
  refine vm rfl rfl ?_
  refine RL.val (O.not rfl) rfl ?_
  refine nt hQ303 ?_
  clear hQ303 Q303
  refine KC.condF rfl ?_
  refine KC.skip ?_
  refine KQ.thn hQ302 ?_
  clear hQ302 Q302
  refine sr fun Q304 hQ304 => ?_
  refine RL.val (O.fldA fl62_2 (by decide) rfl) rfl ?_
  refine RL.val (O.load sc58 rfl (Cs.adds [2] ((hM.bx (i := 1) rfl)) rfl)) rfl ?_
  refine RL.val (O.loadN (cs := [v8 s1.f_Proto, v16 s1.f_Src, v16 s1.f_Dst, v32 s1.f_Seq, v32 s1.f_Ack, v8 s1.f_Flags, v16 s1.f_Window, v16 s1.f_Urgent, .slice A2 (s1.f_Options).length c3, v8 s1.f_Type, v8 s1.f_Code, .slice A5 (s1.f_Data).length c6]) ag26 rfl (Cs.addsN [] ((hM.bx (i := 0) rfl)) rfl)) rfl ?_
  refine RL.icallv (first := []) (captured := []) rfl Try.func46 bd46 rfl rfl rfl Try.ntmps46 rfl ?_
  refine sr fun Q305 hQ305 => ?_
  refine RL.eff (E.box (vs := [v8 s1.f_Proto, v16 s1.f_Src, v16 s1.f_Dst, v32 s1.f_Seq, v32 s1.f_Ack, v8 s1.f_Flags, v16 s1.f_Window, v16 s1.f_Urgent, .slice A2 (s1.f_Options).length c3, v8 s1.f_Type, v8 s1.f_Code, .slice A5 (s1.f_Data).length c6]) hM rfl rfl) rfl fun v w307 hv => ?_
  clear hM
  obtain ⟨g306, rfl, hM, hf⟩ := hv
  refine RL.eff (E.alloc hM ze26) rfl fun v w310 hv => ?_
  clear hM
  obtain ⟨g309, rfl, hM, hf⟩ := hv
  refine nt hQ305 ?_
  clear hQ305 Q305
  replace hM := hM.pick [0, 1, 3, 4] rfl (by decide)
  refine sr fun Q312 hQ312 => ?_
  refine RL.val (O.fldA fl26_9 (by decide) rfl) rfl ?_
  refine RL.val (O.load sc5 rfl (Cs.adds [9] ((hM.bx (i := 2) rfl)) rfl)) rfl ?_
  refine RL.val (O.fldA fl26_10 (by decide) rfl) rfl ?_
  refine RL.val (O.load sc5 rfl (Cs.adds [10] ((hM.bx (i := 2) rfl)) rfl)) rfl ?_
  refine RL.val (O.bld (cs := [v8 0, v16 0, v16 0, v32 0, v32 0, v8 0, v16 0, v16 0, .slice none 0 0, v8 s1.f_Type, v8 s1.f_Code, .slice none 0 0]) bt26 rfl (by kernel_rfl)) rfl ?_
  refine RL.effs (E.stB (j := 3) (off := 0) (vs := [v8 0, v16 0, v16 0, v32 0, v32 0, v8 0, v16 0, v16 0, .slice none 0 0, v8 s1.f_Type, v8 s1.f_Code, .slice none 0 0]) (cs' := [v8 0, v16 0, v16 0, v32 0, v32 0, v8 0, v16 0, v16 0, .slice none 0 0, v8 s1.f_Type, v8 s1.f_Code, .slice none 0 0]) hM rfl sz26 rfl (adds_eq [] rfl) rfl rfl (One.all rfl) rfl rfl) fun w313 hM1 => ?_
  clear hM
  have hM := hM1
  clear hM1
  refine nt hQ312 ?_
  clear hQ312 Q312
  refine KC.ret ?_
  have hb314 := hM.bx (i := 3) rfl
  refine KQ.rets Try.results46 (RVs.cons (RV.cN (cs := [v8 0, v16 0, v16 0, v32 0, v32 0, v8 0, v16 0, v16 0, .slice none 0 0, v8 s1.f_Type, v8 s1.f_Code, .slice none 0 0]) rfl ag26 hb314) RVs.nil) ?_
  refine ⟨.agg #[v8 0, v16 0, v16 0, v32 0, v32 0, v8 0, v16 0, v16 0, .slice none 0 0, v8 s1.f_Type, v8 s1.f_Code, .slice none 0 0], rfl, ?_⟩
  refine RL.eff (E.alloc hM ze26) rfl fun v w316 hv => ?_
  clear hM
  obtain ⟨g315, rfl, hM, hf⟩ := hv
  refine RL.effs (E.stB (j := 4) (off := 0) (vs := [v8 0, v16 0, v16 0, v32 0, v32 0, v8 0, v16 0, v16 0, .slice none 0 0, v8 s1.f_Type, v8 s1.f_Code, .slice none 0 0]) (cs' := [v8 0, v16 0, v16 0, v32 0, v32 0, v8 0, v16 0, v16 0, .slice none 0 0, v8 s1.f_Type, v8 s1.f_Code, .slice none 0 0]) hM rfl sz26 rfl (adds_eq [] rfl) rfl rfl (One.all rfl) rfl rfl) fun w318 hM1 => ?_
  clear hM
  have hM := hM1
  clear hM1
  refine nt hQ304 ?_
  clear hQ304 Q304
  replace hM := hM.pick [0, 1, 4] rfl (by decide)
  refine KC.cut (fun a w326 => Kn 47 [(1, .pointer (some ⟨g9, 0, none⟩)), (3, .pointer (some ⟨g206, 0, none⟩)), (5, .pointer (some ⟨g315, 0, none⟩))] a ∧ Mem w [] w326 [.box g9 26 [v8 s1.f_Proto, v16 s1.f_Src, v16 s1.f_Dst, v32 s1.f_Seq, v32 s1.f_Ack, v8 s1.f_Flags, v16 s1.f_Window, v16 s1.f_Urgent, .slice A2 (s1.f_Options).length c3, v8 s1.f_Type, v8 s1.f_Code, .slice A5 (s1.f_Data).length c6], .box g206 62 [vI 4, vI 2, .func (.func 46) #[] #[], .func (.func 47) #[] #[], .func (.func 48) #[] #[]], .box g315 26 [v8 s1.f_Proto, v16 0, v16 0, v32 0, v32 0, v8 0, v16 0, v16 0, .slice none 0 0, v8 s1.f_Type, v8 s1.f_Code, .slice A5 (s1.f_Data).length c6]] ∧ F_trans_Right_j5 s1 = some r) ?_ ?_
  ·replace hM := hM.drewN 1
   refine KC.draw [] [5, 7] [3, 5, 7] [0, 2, 4, 6] (.cons 0 (.cons 1 (.cons 2 (.cons 4 (.alt 3 (.ofList [5, 6, 7]) 5 (.ofList [3, 6, 7])))))) moP (by kernel_rfl) ?_
   refine RD.p rfl rfl rfl rfl (fun w' => O.fldA fl26_0 (by decide) rfl) ?_
   refine RD.q rfl rfl rfl rfl (fun w' hf => O.load sc5 rfl (Cs.adds [0] ((hM.bx (i := 0) rfl).fut hf) rfl)) ?_
   refine RD.p rfl rfl rfl rfl (fun w' => O.fldA fl26_11 (by decide) rfl) ?_
   refine RD.p rfl rfl rfl rfl (fun w' => O.fldA fl26_0 (by decide) rfl) ?_
   refine RD.alt ?_ ?_
   ·refine RD.mq rfl rfl (O.load sc24 rfl (Cs.adds [11] ((hM.bx (i := 0) rfl)) rfl)) rfl ?_
    refine RD.meffs rfl rfl rfl (E.stB (j := 2) (off := 0) (vs := [v8 s1.f_Proto]) (cs' := [v8 s1.f_Proto, v16 0, v16 0, v32 0, v32 0, v8 0, v16 0, v16 0, .slice none 0 0, v8 s1.f_Type, v8 s1.f_Code, .slice none 0 0]) hM rfl sz5 rfl (adds_eq [0] rfl) rfl rfl (One.all rfl) rfl rfl) fun w319 hM1 => ?_
    clear hM
    have hM := hM1
    clear hM1
    refine RD.p rfl rfl rfl rfl (fun w' => O.fldA fl26_11 (by decide) rfl) ?_
    refine RD.meffs rfl rfl rfl (E.stB (j := 2) (off := 11) (vs := [.slice A5 (s1.f_Data).length c6]) (cs' := [v8 s1.f_Proto, v16 0, v16 0, v32 0, v32 0, v8 0, v16 0, v16 0, .slice none 0 0, v8 s1.f_Type, v8 s1.f_Code, .slice A5 (s1.f_Data).length c6]) hM rfl sz24 rfl (adds_eq [11] rfl) rfl rfl (One.all rfl) rfl rfl) fun w320 hM1 => ?_
    clear hM
    have hM := hM1
    clear hM1
    refine RD.nil ?_
    refine KQ.then_k ?_
    exact fun a ha => ⟨ha.less (less_cons rfl (less_cons rfl (less_cons rfl less_nil))), hM, hF⟩
   refine RD.meffs rfl rfl rfl (E.stB (j := 2) (off := 0) (vs := [v8 s1.f_Proto]) (cs' := [v8 s1.f_Proto, v16 0, v16 0, v32 0, v32 0, v8 0, v16 0, v16 0, .slice none 0 0, v8 s1.f_Type, v8 s1.f_Code, .slice none 0 0]) hM rfl sz5 rfl (adds_eq [0] rfl) rfl rfl (One.all rfl) rfl rfl) fun w321 hM1 => ?_
   clear hM
   have hM := hM1
   clear hM1
   refine RD.mq rfl rfl (O.load sc24 rfl (Cs.adds [11] ((hM.bx (i := 0) rfl)) rfl)) rfl ?_
   refine RD.p rfl rfl rfl rfl (fun w' => O.fldA fl26_11 (by decide) rfl) ?_
   refine RD.meffs rfl rfl rfl (E.stB (j := 2) (off := 11) (vs := [.slice A5 (s1.f_Data).length c6]) (cs' := [v8 s1.f_Proto, v16 0, v16 0, v32 0, v32 0, v8 0, v16 0, v16 0, .slice none 0 0, v8 s1.f_Type, v8 s1.f_Code, .slice A5 (s1.f_Data).length c6]) hM rfl sz24 rfl (adds_eq [11] rfl) rfl rfl (One.all rfl) rfl rfl) fun w322 hM1 => ?_
   clear hM
   have hM := hM1
   clear hM1
   refine RD.nil ?_
   refine KQ.then_k ?_
   exact fun a ha => ⟨ha.less (less_cons rfl (less_cons rfl (less_cons rfl less_nil))), hM, hF⟩
  rintro a w326 ⟨ha, hM, hF⟩
  refine KC.app ha ?_
  clear ha
  unfold F_trans_Right_j5 at hF
  refine KC.cut (fun a w340 => ∃ (t339 : Bool), Kn 47 [(2, vB t339)] a ∧ Mem w [] w340 [] ∧ F_trans_Right_j6 t339 = some r) ?_ ?_
  ·refine KC.region ?_
   refine RL.val (O.loadN (cs := [v8 s1.f_Proto, v16 s1.f_Src, v16 s1.f_Dst, v32 s1.f_Seq, v32 s1.f_Ack, v8 s1.f_Flags, v16 s1.f_Window, v16 s1.f_Urgent, .slice A2 (s1.f_Options).length c3, v8 s1.f_Type, v8 s1.f_Code, .slice A5 (s1.f_Data).length c6]) ag26 rfl (Cs.addsN [] ((hM.bx (i := 0) rfl)) rfl)) rfl ?_
   refine RL.val (O.loadN (cs := [v8 s1.f_Proto, v16 0, v16 0, v32 0, v32 0, v8 0, v16 0, v16 0, .slice none 0 0, v8 s1.f_Type, v8 s1.f_Code, .slice A5 (s1.f_Data).length c6]) ag26 rfl (Cs.addsN [] ((hM.bx (i := 2) rfl)) rfl)) rfl ?_
   refine obindE hF fun y327 hx328 hF => ?_
   refine RL.call Try.func15 bd15 rfl rfl (c_trans_Same _ s1 _ _ (hM.inp hr4 Off.nil) _ _ (hM.inp hr7 Off.nil) (T_trans_Segment.mk s1.f_Proto 0 0 0 0 0 0 0 ([]) s1.f_Type s1.f_Code s1.f_Data) none 0 Rd.nilr _ _ (hM.inp hr7 Off.nil) _ hx328) fun v w329 hv => ?_
   obtain ⟨rfl, hN330⟩ := hv
   replace hM := hM.call0 hN330
   refine vm rfl rfl ?_
   refine RL.bcase (t := 28) rfl (fun hc => ?_) (fun hc => ?_)
   ·rw [if_pos hc] at hF
    refine RL.gval rfl rfl (O.fldA fl26_8 (by decide) rfl) rfl ?_
    refine RL.gval rfl rfl (O.load sc24 rfl (Cs.adds [8] ((hM.bx (i := 0) rfl)) rfl)) rfl ?_
    refine RL.gval rfl rfl (O.len sl24 rfl) rfl ?_
    refine RL.gval rfl rfl (O.rem rfl rfl (by decide)) rfl ?_
    refine RL.gval rfl rfl (O.eql rfl rfl) rfl ?_
    refine RL.val (O.pickt rfl rfl) rfl ?_
    refine vm rfl rfl ?_
    refine RL.bcase (t := 35) rfl (fun hc => ?_) (fun hc => ?_)
    ·rw [if_pos hc] at hF
     refine RL.gval rfl rfl (O.fldA fl26_8 (by decide) rfl) rfl ?_
     refine RL.gval rfl rfl (O.load sc24 rfl (Cs.adds [8] ((hM.bx (i := 0) rfl)) rfl)) rfl ?_
     refine RL.gval rfl rfl (O.len sl24 rfl) rfl ?_
     refine RL.gval rfl rfl (O.leq rfl rfl) rfl ?_
     refine RL.val (O.pickt rfl rfl) rfl ?_
     refine vm rfl rfl ?_
     refine RL.bcase (t := 41) rfl (fun hc => ?_) (fun hc => ?_)
     ·rw [if_pos hc] at hF
      refine RL.gval rfl rfl (O.loadN (cs := [vI 4, vI 2, .func (.func 46) #[] #[], .func (.func 47) #[] #[], .func (.func 48) #[] #[]]) ag62 rfl (Cs.addsN [] ((hM.bx (i := 1) rfl)) rfl)) rfl ?_
      refine RL.gval rfl rfl (O.loadN (cs := [v8 s1.f_Proto, v16 s1.f_Src, v16 s1.f_Dst, v32 s1.f_Seq, v32 s1.f_Ack, v8 s1.f_Flags, v16 s1.f_Window, v16 s1.f_Urgent, .slice A2 (s1.f_Options).length c3, v8 s1.f_Type, v8 s1.f_Code, .slice A5 (s1.f_Data).length c6]) ag26 rfl (Cs.addsN [] ((hM.bx (i := 0) rfl)) rfl)) rfl ?_
      refine RL.gicall rfl rfl Try.func32 bd32 rfl rfl rfl Try.ntmps32 rfl ?_
      refine sr fun Q331 hQ331 => ?_
      refine RL.eff (E.box (vs := [vI 4, vI 2, .func (.func 46) #[] #[], .func (.func 47) #[] #[], .func (.func 48) #[] #[]]) hM rfl rfl) rfl fun v w333 hv => ?_
      clear hM
      obtain ⟨g332, rfl, hM, hf⟩ := hv
      refine RL.eff (E.box (vs := [v8 s1.f_Proto, v16 s1.f_Src, v16 s1.f_Dst, v32 s1.f_Seq, v32 s1.f_Ack, v8 s1.f_Flags, v16 s1.f_Window, v16 s1.f_Urgent, .slice A2 (s1.f_Options).length c3, v8 s1.f_Type, v8 s1.f_Code, .slice A5 (s1.f_Data).length c6]) hM rfl rfl) rfl fun v w336 hv => ?_
      clear hM
      obtain ⟨g335, rfl, hM, hf⟩ := hv
      refine va rfl rfl ?_
      refine nt hQ331 ?_
      clear hQ331 Q331
      refine sr fun Q338 hQ338 => ?_
      refine RL.val (O.fldA fl62_0 (by decide) rfl) rfl ?_
      refine RL.val (O.load sc3 rfl (Cs.adds [0] ((hM.bx (i := 3) rfl)) rfl)) rfl ?_
      refine RL.val (O.fldA fl26_8 (by decide) rfl) rfl ?_
      refine RL.val (O.load sc24 rfl (Cs.adds [8] ((hM.bx (i := 4) rfl)) rfl)) rfl ?_
      refine RL.val (O.len sl24 rfl) rfl ?_
      refine RL.val (O.add rfl rfl) rfl ?_
      refine RL.val (O.fldA fl26_11 (by decide) rfl) rfl ?_
      refine RL.val (O.load sc24 rfl (Cs.adds [11] ((hM.bx (i := 4) rfl)) rfl)) rfl ?_
      refine RL.val (O.len sl24 rfl) rfl ?_
      refine RL.val (O.add rfl rfl) rfl ?_
      refine va rfl rfl ?_
      refine nt hQ338 ?_
      clear hQ338 Q338
      refine KC.ret ?_
      refine KQ.rets Try.results32 (RVs.cons (RV.tm rfl) RVs.nil) ?_
      refine ⟨.int .i64 (IntKind.i64.wrap ((IntKind.i64.wrap (4 + (s1.f_Options.length : Int))) + (s1.f_Data.length : Int))), rfl, ?_⟩
      refine RL.gval rfl rfl (O.leq rfl rfl) rfl ?_
      refine RL.val (O.pickt rfl rfl) rfl ?_
      refine va rfl rfl ?_
      refine RL.nil ?_
      refine KQ.then_k ?_
      replace hM := hM.pick [] rfl (by decide)
      exact fun a ha => ⟨(decide ((IntKind.i64.wrap ((IntKind.i64.wrap (4 + (s1.f_Options.length : Int))) + (s1.f_Data.length : Int))) ≤ 65535)), ha.less (less_cons rfl less_nil), hM, hF⟩
     rw [if_neg (ne_true hc)] at hF
     refine RL.brun1 5 46 false (by kernel_rfl) ?_
     refine va rfl rfl ?_
     refine RL.nil ?_
     refine KQ.then_k ?_
     replace hM := hM.pick [] rfl (by decide)
     exact fun a ha => ⟨false, ha.less (less_cons rfl less_nil), hM, hF⟩
    rw [if_neg (ne_true hc)] at hF
    refine RL.brun1 11 46 false (by kernel_rfl) ?_
    refine va rfl rfl ?_
    refine RL.nil ?_
    refine KQ.then_k ?_
    replace hM := hM.pick [] rfl (by decide)
    exact fun a ha => ⟨false, ha.less (less_cons rfl less_nil), hM, hF⟩
   rw [if_neg (ne_true hc)] at hF
   refine RL.brun1 18 46 false (by kernel_rfl) ?_
   refine va rfl rfl ?_
   refine RL.nil ?_
   refine KQ.then_k ?_
   replace hM := hM.pick [] rfl (by decide)
   exact fun a ha => ⟨false, ha.less (less_cons rfl less_nil), hM, hF⟩
  rintro a w340 ⟨t339, ha, hM, hF⟩
  refine KC.app ha ?_
  clear ha
  unfold F_trans_Right_j6 at hF
  refine KC.ret ?_
  have hE := Option.some.inj hF
  clear hF
  subst hE
  refine KQ.rets Try.results13 (RVs.cons (RV.tm rfl) RVs.nil) ?_
  exact ⟨_, rfl, rfl, hM⟩
 rw [if_neg hk300] at hF
 by_cases hk341 : (s1.f_Proto == 58) = true
 ·rw [if_pos hk341] at hF
  refine RD.q rfl rfl rfl rfl (fun w' hf => O.lkT ((hM.mapAt (i := 2) rfl).fut hf) Try.underlying64 Try.underlying5 rfl rfl (lk_miss hk215 (lk_miss hk259 (lk_miss hk300 (lk_hit hk341))))) ?_
  refine RD.p rfl rfl rfl rfl (fun w' => O.move rfl) ?_
  refine RD.p rfl rfl rfl rfl (fun w' => O.ext rfl rfl) ?_
  refine RD.p rfl rfl rfl rfl (fun w' => O.ext rfl rfl) ?_
  refine RD.meffs rfl rfl rfl (E.stB (j := 1) (off := 0) (vs := [vI 4, vI 2, .func (.func 46) #[] #[], .func (.func 47) #[] #[], .func (.func 48) #[] #[]]) (cs' := [vI 4, vI 2, .func (.func 46) #[] #[], .func (.func 47) #[] #[], .func (.func 48) #[] #[]]) hM rfl sz62 rfl (adds_eq [] rfl) rfl rfl (One.all rfl) rfl rfl) fun w342 hM1 => ?_
  clear hM
  have hM := hM1
  clear hM1
  refine RD.p rfl rfl rfl rfl (fun w' => O.assign rfl) ?_
  refine RD.nil ?_
  refine KQ.thn hQ12 ?_
  clear hQ12 Q12
  refine KC.seqH fun Q343 hQ343 => ?_
  refine sr fun Q344 hQ344 => ?_
  refine vm rfl rfl ?_
  refine RL.val (O.not rfl) rfl ?_
  refine nt hQ344 ?_
  clear hQ344 Q344
  refine KC.condF rfl ?_
  refine KC.skip ?_
  refine KQ.thn hQ343 ?_
  clear hQ343 Q343
  refine sr fun Q345 hQ345 => ?_
  refine RL.val (O.fldA fl62_2 (by decide) rfl) rfl ?_
  refine RL.val (O.load sc58 rfl (Cs.adds [2] ((hM.bx (i := 1) rfl)) rfl)) rfl ?_
  refine RL.val (O.loadN (cs := [v8 s1.f_Proto, v16 s1.f_Src, v16 s1.f_Dst, v32 s1.f_Seq, v32 s1.f_Ack, v8 s1.f_Flags, v16 s1.f_Window, v16 s1.f_Urgent, .slice A2 (s1.f_Options).length c3, v8 s1.f_Type, v8 s1.f_Code, .slice A5 (s1.f_Data).length c6]) ag26 rfl (Cs.addsN [] ((hM.bx (i := 0) rfl)) rfl)) rfl ?_
  refine RL.icallv (first := []) (captured := []) rfl Try.func46 bd46 rfl rfl rfl Try.ntmps46 rfl ?_
  refine sr fun Q346 hQ346 => ?_
  refine RL.eff (E.box (vs := [v8 s1.f_Proto, v16 s1.f_Src, v16 s1.f_Dst, v32 s1.f_Seq, v32 s1.f_Ack, v8 s1.f_Flags, v16 s1.f_Window, v16 s1.f_Urgent, .slice A2 (s1.f_Options).length c3, v8 s1.f_Type, v8 s1.f_Code, .slice A5 (s1.f_Data).length c6]) hM rfl rfl) rfl fun v w348 hv => ?_
  clear hM
  obtain ⟨g347, rfl, hM, hf⟩ := hv
  refine RL.eff (E.alloc hM ze26) rfl fun v w351 hv => ?_
  clear hM
  obtain ⟨g350, rfl, hM, hf⟩ := hv
  refine nt hQ346 ?_
  clear hQ346 Q346
  replace hM := hM.pick [0, 1, 3, 4] rfl (by decide)
  refine sr fun Q353 hQ353 => ?_
  refine RL.val (O.fldA fl26_9 (by decide) rfl) rfl ?_
  refine RL.val (O.load sc5 rfl (Cs.adds [9] ((hM.bx (i := 2) rfl)) rfl)) rfl ?_
  refine RL.val (O.fldA fl26_10 (by decide) rfl) rfl ?_
  refine RL.val (O.load sc5 rfl (Cs.adds [10] ((hM.bx (i := 2) rfl)) rfl)) rfl ?_
  refine RL.val (O.bld (cs := [v8 0, v16 0, v16 0, v32 0, v32 0, v8 0, v16 0, v16 0, .slice none 0 0, v8 s1.f_Type, v8 s1.f_Code, .slice none 0 0]) bt26 rfl (by kernel_rfl)) rfl ?_
  refine RL.effs (E.stB (j := 3) (off := 0) (vs := [v8 0, v16 0, v16 0, v32 0, v32 0, v8 0, v16 0, v16 0, .slice none 0 0, v8 s1.f_Type, v8 s1.f_Code, .slice none 0 0]) (cs' := [v8 0, v16 0, v16 0, v32 0, v32 0, v8 0, v16 0, v16 0, .slice none 0 0, v8 s1.f_Type, v8 s1.f_Code, .slice none 0 0]) hM rfl sz26 rfl (adds_eq [] rfl) rfl rfl (One.all rfl) rfl rfl) fun w354 hM1 => ?_
  clear hM
  have hM := hM1
  clear hM1
  refine nt hQ353 ?_
  clear hQ353 Q353
  refine KC.ret ?_
  have hb355 := hM.bx (i := 3) rfl
  refine KQ.rets Try.results46 (RVs.cons (RV.cN (cs := [v8 0, v16 0, v16 0, v32 0, v32 0, v8 0, v16 0, v16 0, .slice none 0 0, v8 s1.f_Type, v8 s1.f_Code, .slice none 0 0]) rfl ag26 hb355) RVs.nil) ?_
  refine ⟨.agg #[v8 0, v16 0, v16 0, v32 0, v32 0, v8 0, v16 0, v16 0, .slice none 0 0, v8 s1.f_Type, v8 s1.f_Code, .slice none 0 0], rfl, ?_⟩
  refine RL.eff (E.alloc hM ze26) rfl fun v w357 hv => ?_
  clear hM
  obtain ⟨g356, rfl, hM, hf⟩ := hv
  refine RL.effs (E.stB (j := 4) (off := 0) (vs := [v8 0, v16 0, v16 0, v32 0, v32 0, v8 0, v16 0, v16 0, .slice none 0 0, v8 s1.f_Type, v8 s1.f_Code, .slice none 0 0]) (cs' := [v8 0, v16 0, v16 0, v32 0, v32 0, v8 0, v16 0, v16 0, .slice none 0 0, v8 s1.f_Type, v8 s1.f_Code, .slice none 0 0]) hM rfl sz26 rfl (adds_eq [] rfl) rfl rfl (One.all rfl) rfl rfl) fun w359 hM1 => ?_
  clear hM
  have hM := hM1
  clear hM1
  refine nt hQ345 ?_
  clear hQ345 Q345
  replace hM := hM.pick [0, 1, 4] rfl (by decide)
  refine KC.cut (fun a w367 => Kn 47 [(1, .pointer (some ⟨g9, 0, none⟩)), (3, .pointer (some ⟨g206, 0, none⟩)), (5, .pointer (some ⟨g356, 0, none⟩))] a ∧ Mem w [] w367 [.box g9 26 [v8 s1.f_Proto, v16 s1.f_Src, v16 s1.f_Dst, v32 s1.f_Seq, v32 s1.f_Ack, v8 s1.f_Flags, v16 s1.f_Window, v16 s1.f_Urgent, .slice A2 (s1.f_Options).length c3, v8 s1.f_Type, v8 s1.f_Code, .slice A5 (s1.f_Data).length c6], .box g206 62 [vI 4, vI 2, .func (.func 46) #[] #[], .func (.func 47) #[] #[], .func (.func 48) #[] #[]], .box g356 26 [v8 s1.f_Proto, v16 0, v16 0, v32 0, v32 0, v8 0, v16 0, v16 0, .slice none 0 0, v8 s1.f_Type, v8 s1.f_Code, .slice A5 (s1.f_Data).length c6]] ∧ F_trans_Right_j7 s1 = some r) ?_ ?_
  ·replace hM := hM.drewN 1
   refine KC.draw [] [5, 7] [3, 5, 7] [0, 2, 4, 6] (.cons 0 (.cons 1 (.cons 2 (.cons 4 (.alt 3 (.ofList [5, 6, 7]) 5 (.ofList [3, 6, 7])))))) moP (by kernel_rfl) ?_
   refine RD.p rfl rfl rfl rfl (fun w' => O.fldA fl26_0 (by decide) rfl) ?_
   refine RD.q rfl rfl rfl rfl (fun w' hf => O.load sc5 rfl (Cs.adds [0] ((hM.bx (i := 0) rfl).fut hf) rfl)) ?_
   refine RD.p rfl rfl rfl rfl (fun w' => O.fldA fl26_11 (by decide) rfl) ?_
   refine RD.p rfl rfl rfl rfl (fun w' => O.fldA fl26_0 (by decide) rfl) ?_
   refine RD.alt ?_ ?_
   ·refine RD.mq rfl rfl (O.load sc24 rfl (Cs.adds [11] ((hM.bx (i := 0) rfl)) rfl)) rfl ?_
    refine RD.meffs rfl rfl rfl (E.stB (j := 2) (off := 0) (vs := [v8 s1.f_Proto]) (cs' := [v8 s1.f_Proto, v16 0, v16 0, v32 0, v32 0, v8 0, v16 0, v16 0, .slice none 0 0, v8 s1.f_Type, v8 s1.f_Code, .slice none 0 0]) hM rfl sz5 rfl (adds_eq [0] rfl) rfl rfl (One.all rfl) rfl rfl) fun w360 hM1 => ?_
    clear hM
    have hM := hM1
    clear hM1
    refine RD.p rfl rfl rfl rfl (fun w' => O.fldA fl26_11 (by decide) rfl) ?_
    refine RD.meffs rfl rfl rfl (E.stB (j := 2) (off := 11) (vs := [.slice A5 (s1.f_Data).length c6]) (cs' := [v8 s1.f_Proto, v16 0, v16 0, v32 0, v32 0, v8 0, v16 0, v16 0, .slice none 0 0, v8 s1.f_Type, v8 s1.f_Code, .slice A5 (s1.f_Data).length c6]) hM rfl sz24 rfl (adds_eq [11] rfl) rfl rfl (One.all rfl) rfl rfl) fun w361 hM1 => ?_
    clear hM
    have hM := hM1
    clear hM1
    refine RD.nil ?_
    refine KQ.then_k ?_
    exact fun a ha => ⟨ha.less (less_cons rfl (less_cons rfl (less_cons rfl less_nil))), hM, hF⟩
   refine RD.meffs rfl rfl rfl (E.stB (j := 2) (off := 0) (vs := [v8 s1.f_Proto]) (cs' := [v8 s1.f_Proto, v16 0, v16 0, v32 0, v32 0, v8 0, v16 0, v16 0, .slice none 0 0, v8 s1.f_Type, v8 s1.f_Code, .slice none 0 0]) hM rfl sz5 rfl (adds_eq [0] rfl) rfl rfl (One.all rfl) rfl rfl) fun w362 hM1 => ?_
   clear hM
   have hM := hM1
   clear hM1
   refine RD.mq rfl rfl (O.load sc24 rfl (Cs.adds [11] ((hM.bx (i := 0) rfl)) rfl)) rfl ?_
   refine RD.p rfl rfl rfl rfl (fun w' => O.fldA fl26_11 (by decide) rfl) ?_
   refine RD.meffs rfl rfl rfl (E.stB (j := 2) (off := 11) (vs := [.slice A5 (s1.f_Data).length c6]) (cs' := [v8 s1.f_Proto, v16 0, v16 0, v32 0, v32 0, v8 0, v16 0, v16 0, .slice none 0 0, v8 s1.f_Type, v8 s1.f_Code, .slice A5 (s1.f_Data).length c6]) hM rfl sz24 rfl (adds_eq [11] rfl) rfl rfl (One.all rfl) rfl rfl) fun w363 hM1 => ?_
   clear hM
   have hM := hM1
   clear hM1
   refine RD.nil ?_
   refine KQ.then_k ?_
   exact fun a ha => ⟨ha.less (less_cons rfl (less_cons rfl (less_cons rfl less_nil))), hM, hF⟩
  rintro a w367 ⟨ha, hM, hF⟩
  refine KC.app ha ?_
  clear ha
  unfold F_trans_Right_j7 at hF
  refine KC.cut (fun a w381 => ∃ (t380 : Bool), Kn 47 [(2, vB t380)] a ∧ Mem w [] w381 [] ∧ F_trans_Right_j8 t380 = some r) ?_ ?_
  ·refine KC.region ?_
   refine RL.val (O.loadN (cs := [v8 s1.f_Proto, v16 s1.f_Src, v16 s1.f_Dst, v32 s1.f_Seq, v32 s1.f_Ack, v8 s1.f_Flags, v16 s1.f_Window, v16 s1.f_Urgent, .slice A2 (s1.f_Options).length c3, v8 s1.f_Type, v8 s1.f_Code, .slice A5 (s1.f_Data).length c6]) ag26 rfl (Cs.addsN [] ((hM.bx (i := 0) rfl)) rfl)) rfl ?_
   refine RL.val (O.loadN (cs := [v8 s1.f_Proto, v16 0, v16 0, v32 0, v32 0, v8 0, v16 0, v16 0, .slice none 0 0, v8 s1.f_Type, v8 s1.f_Code, .slice A5 (s1.f_Data).length c6]) ag26 rfl (Cs.addsN [] ((hM.bx (i := 2) rfl)) rfl)) rfl ?_
   refine obindE hF fun y368 hx369 hF => ?_
   refine RL.call Try.func15 bd15 rfl rfl (c_trans_Same _ s1 _ _ (hM.inp hr4 Off.nil) _ _ (hM.inp hr7 Off.nil) (T_trans_Segment.mk s1.f_Proto 0 0 0 0 0 0 0 ([]) s1.f_Type s1.f_Code s1.f_Data) none 0 Rd.nilr _ _ (hM.inp hr7 Off.nil) _ hx369) fun v w370 hv => ?_
   obtain ⟨rfl, hN371⟩ := hv
   replace hM := hM.call0 hN371
   refine vm rfl rfl ?_
   refine RL.bcase (t := 28) rfl (fun hc => ?_) (fun hc => ?_)
   ·rw [if_pos hc] at hF
    refine RL.gval rfl rfl (O.fldA fl26_8 (by decide) rfl) rfl ?_
    refine RL.gval rfl rfl (O.load sc24 rfl (Cs.adds [8] ((hM.bx (i := 0) rfl)) rfl)) rfl ?_
    refine RL.gval rfl rfl (O.len sl24 rfl) rfl ?_
    refine RL.gval rfl rfl (O.rem rfl rfl (by decide)) rfl ?_
    refine RL.gval rfl rfl (O.eql rfl rfl) rfl ?_
    refine RL.val (O.pickt rfl rfl) rfl ?_
    refine vm rfl rfl ?_
    refine RL.bcase (t := 35) rfl (fun hc => ?_) (fun hc => ?_)
    ·rw [if_pos hc] at hF
     refine RL.gval rfl rfl (O.fldA fl26_8 (by decide) rfl) rfl ?_
     refine RL.gval rfl rfl (O.load sc24 rfl (Cs.adds [8] ((hM.bx (i := 0) rfl)) rfl)) rfl ?_
     refine RL.gval rfl rfl (O.len sl24 rfl) rfl ?_
     refine RL.gval rfl rfl (O.leq rfl rfl) rfl ?_
     refine RL.val (O.pickt rfl rfl) rfl ?_
     refine vm rfl rfl ?_
     refine RL.bcase (t := 41) rfl (fun hc => ?_) (fun hc => ?_)
     ·rw [if_pos hc] at hF
      refine RL.gval rfl rfl (O.loadN (cs := [vI 4, vI 2, .func (.func 46) #[] #[], .func (.func 47) #[] #[], .func (.func 48) #[] #[]]) ag62 rfl (Cs.addsN [] ((hM.bx (i := 1) rfl)) rfl)) rfl ?_
      refine RL.gval rfl rfl (O.loadN (cs := [v8 s1.f_Proto, v16 s1.f_Src, v16 s1.f_Dst, v32 s1.f_Seq, v32 s1.f_Ack, v8 s1.f_Flags, v16 s1.f_Window, v16 s1.f_Urgent, .slice A2 (s1.f_Options).length c3, v8 s1.f_Type, v8 s1.f_Code, .slice A5 (s1.f_Data).length c6]) ag26 rfl (Cs.addsN [] ((hM.bx (i := 0) rfl)) rfl)) rfl ?_
      refine RL.gicall rfl rfl Try.func32 bd32 rfl rfl rfl Try.ntmps32 rfl ?_
      refine sr fun Q372 hQ372 => ?_
      refine RL.eff (E.box (vs := [vI 4, vI 2, .func (.func 46) #[] #[], .func (.func 47) #[] #[], .func (.func 48) #[] #[]]) hM rfl rfl) rfl fun v w374 hv => ?_
      clear hM
      obtain ⟨g373, rfl, hM, hf⟩ := hv
      refine RL.eff (E.box (vs := [v8 s1.f_Proto, v16 s1.f_Src, v16 s1.f_Dst, v32 s1.f_Seq, v32 s1.f_Ack, v8 s1.f_Flags, v16 s1.f_Window, v16 s1.f_Urgent, .slice A2 (s1.f_Options).length c3, v8 s1.f_Type, v8 s1.f_Code, .slice A5 (s1.f_Data).length c6]) hM rfl rfl) rfl fun v w377 hv => ?_
      clear hM
      obtain ⟨g376, rfl, hM, hf⟩ := hv
      refine va rfl rfl ?_
      refine nt hQ372 ?_
      clear hQ372 Q372
      refine sr fun Q379 hQ379 => ?_
      refine RL.val (O.fldA fl62_0 (by decide) rfl) rfl ?_
      refine RL.val (O.load sc3 rfl (Cs.adds [0] ((hM.bx (i := 3) rfl)) rfl)) rfl ?_
      refine RL.val (O.fldA fl26_8 (by decide) rfl) rfl ?_
      refine RL.val (O.load sc24 rfl (Cs.adds [8] ((hM.bx (i := 4) rfl)) rfl)) rfl ?_
      refine RL.val (O.len sl24 rfl) rfl ?_
      refine RL.val (O.add rfl rfl) rfl ?_
      refine RL.val (O.fldA fl26_11 (by decide) rfl) rfl ?_
      refine RL.val (O.load sc24 rfl (Cs.adds [11] ((hM.bx (i := 4) rfl)) rfl)) rfl ?_
      refine RL.val (O.len sl24 rfl) rfl ?_
      refine RL.val (O.add rfl rfl) rfl ?_
      refine va rfl rfl ?_
      refine nt hQ379 ?_
      clear hQ379 Q379
      refine KC.ret ?_
      refine KQ.rets Try.results32 (RVs.cons (RV.tm rfl) RVs.nil) ?_
      refine ⟨.int .i64 (IntKind.i64.wrap ((IntKind.i64.wrap (4 + (s1.f_Options.length : Int))) + (s1.f_Data.length : Int))), rfl, ?_⟩
      refine RL.gval rfl rfl (O.leq rfl rfl) rfl ?_
      refine RL.val (O.pickt rfl rfl) rfl ?_
      refine va rfl rfl ?_
      refine RL.nil ?_
      refine KQ.then_k ?_
      replace hM := hM.pick [] rfl (by decide)
      exact fun a ha => ⟨(decide ((IntKind.i64.wrap ((IntKind.i64.wrap (4 + (s1.f_Options.length : Int))) + (s1.f_Data.length : Int))) ≤ 65535)), ha.less (less_cons rfl less_nil), hM, hF⟩
     rw [if_neg (ne_true hc)] at hF
     refine RL.brun1 5 46 false (by kernel_rfl) ?_
     refine va rfl rfl ?_
     refine RL.nil ?_
     refine KQ.then_k ?_
     replace hM := hM.pick [] rfl (by decide)
     exact fun a ha => ⟨false, ha.less (less_cons rfl less_nil), hM, hF⟩
    rw [if_neg (ne_true hc)] at hF
    refine RL.brun1 11 46 false (by kernel_rfl) ?_
    refine va rfl rfl ?_
    refine RL.nil ?_
    refine KQ.then_k ?_
    replace hM := hM.pick [] rfl (by decide)
    exact fun a ha => ⟨false, ha.less (less_cons rfl less_nil), hM, hF⟩
   rw [if_neg (ne_true hc)] at hF
   refine RL.brun1 18 46 false (by kernel_rfl) ?_
   refine va rfl rfl ?_
   refine RL.nil ?_
   refine KQ.then_k ?_
   replace hM := hM.pick [] rfl (by decide)
   exact fun a ha => ⟨false, ha.less (less_cons rfl less_nil), hM, hF⟩
  rintro a w381 ⟨t380, ha, hM, hF⟩
  refine KC.app ha ?_
  clear ha
  unfold F_trans_Right_j8 at hF
  refine KC.ret ?_
  have hE := Option.some.inj hF
  clear hF
  subst hE
  refine KQ.rets Try.results13 (RVs.cons (RV.tm rfl) RVs.nil) ?_
  exact ⟨_, rfl, rfl, hM⟩
 rw [if_neg hk341] at hF
 refine RD.q rfl rfl rfl rfl (fun w' hf => O.lkF (cs := [vI 0, vI 0, Value.nilFunc, Value.nilFunc, Value.nilFunc]) ((hM.mapAt (i := 2) rfl).fut hf) Try.underlying64 Try.underlying5 (by kernel_rfl) rfl rfl (lk_miss hk215 (lk_miss hk259 (lk_miss hk300 (lk_miss hk341 (lk_nil)))))) ?_
 refine RD.p rfl rfl rfl rfl (fun w' => O.move rfl) ?_
 refine RD.p rfl rfl rfl rfl (fun w' => O.ext rfl rfl) ?_
 refine RD.p rfl rfl rfl rfl (fun w' => O.ext rfl rfl) ?_
 refine RD.meffs rfl rfl rfl (E.stB (j := 1) (off := 0) (vs := [vI 0, vI 0, Value.nilFunc, Value.nilFunc, Value.nilFunc]) (cs' := [vI 0, vI 0, Value.nilFunc, Value.nilFunc, Value.nilFunc]) hM rfl sz62 rfl (adds_eq [] rfl) rfl rfl (One.all rfl) rfl rfl) fun w383 hM1 => ?_
 clear hM
 have hM := hM1
 clear hM1
 refine RD.p rfl rfl rfl rfl (fun w' => O.assign rfl) ?_
 refine RD.nil ?_
 refine KQ.thn hQ12 ?_
 clear hQ12 Q12
 refine KC.seqH fun Q384 hQ384 => ?_
 refine sr fun Q385 hQ385 => ?_
 refine vm rfl rfl ?_
 refine RL.val (O.not rfl) rfl ?_
 refine nt hQ385 ?_
 clear hQ385 Q385
 refine KC.condT rfl ?_
 refine sr fun Q386 hQ386 => ?_
 refine va rfl rfl ?_
 refine nt hQ386 ?_
 clear hQ386 Q386
 refine KC.ret ?_
 refine KQ.thr hQ384 ?_
 clear hQ384 Q384
 have hE := Option.some.inj hF
 clear hF
 subst hE
 replace hM := hM.pick [] rfl (by decide)
 refine KQ.rets Try.results13 (RVs.cons (RV.tm rfl) RVs.nil) ?_
 exact ⟨_, rfl, rfl, hM⟩
end Go.Proofs.Ytcinagdkkclapaa
