/- Printed by a program of this claim: each call returns what the plain function of its name gives. -/
import Derived.Test.YtcinagdkkclapaaW1
import Derived.Test.YtcinagdkkclapaaW3
import Derived.Test.YtcinagdkkclapaaW4
import Derived.Test.YtcinagdkkclapaaW5
import Derived.Test.YtcinagdkkclapaaW6
set_option linter.unusedVariables false
namespace Go.Proofs.Ytcinagdkkclapaa
open Go Go.Ox Go.RowKit
set_option maxRecDepth 100000 in
set_option maxHeartbeats 40000000 in
theorem c_trans_Put (w : World) (s1 : T_trans_Segment) (A2 : Option Addr) (c3 : Nat) (hr4 : Rd w A2 c3 1 s1.f_Options.length (s1.f_Options.flatMap (eI .u8))) (A5 : Option Addr) (c6 : Nat) (hr7 : Rd w A5 c6 1 s1.f_Data.length (s1.f_Data.flatMap (eI .u8))) (A9 : Option Addr) (c10 : Nat) (src8 : List Int) (hr11 : Rd w A9 c10 1 src8.length (src8.flatMap (eI .u8))) (A13 : Option Addr) (c14 : Nat) (dst12 : List Int) (hr15 : Rd w A13 c14 1 dst12.length (dst12.flatMap (eI .u8))) (r : (List Int) × Int) (hF : F_trans_Put s1 src8 dst12 = some r) :
  CallsR Try.prog 11 [.agg #[v8 s1.f_Proto, v16 s1.f_Src, v16 s1.f_Dst, v32 s1.f_Seq, v32 s1.f_Ack, v8 s1.f_Flags, v16 s1.f_Window, v16 s1.f_Urgent, .slice A2 (s1.f_Options).length c3, v8 s1.f_Type, v8 s1.f_Code, .slice A5 (s1.f_Data).length c6], .slice A9 (src8).length c10, .slice A13 (dst12).length c14] w (fun v w' => ∃ (A0 : Option Addr) (c0 : Nat), v = .tuple #[.slice A0 (r.1).length c0, vI r.2] ∧ Mem w [] w' [.row A0 c0 5 1 r.1.length (r.1.flatMap (eI .u8))]) := by
 refine calls_KC Try.func11 rfl Try.ntmps11 rfl ?_
 have hM := Mem.init w
 unfold F_trans_Put at hF
 refine sr fun Q16 hQ16 => ?_
 refine RL.eff (E.box (vs := [v8 s1.f_Proto, v16 s1.f_Src, v16 s1.f_Dst, v32 s1.f_Seq, v32 s1.f_Ack, v8 s1.f_Flags, v16 s1.f_Window, v16 s1.f_Urgent, .slice A2 (s1.f_Options).length c3, v8 s1.f_Type, v8 s1.f_Code, .slice A5 (s1.f_Data).length c6]) hM rfl rfl) rfl fun v w18 hv => ?_
 clear hM
 obtain ⟨g17, rfl, hM, hf⟩ := hv
 refine va rfl rfl ?_
 refine va rfl rfl ?_
 refine nt hQ16 ?_
 clear hQ16 Q16
 refine KC.seqH fun Q20 hQ20 => ?_
 replace hM := hM.drewN 1
 refine KC.draw [] [8] [0, 7, 8] [1, 4, 5, 6, 9] (.cons 1 (.cons 2 (.alt 0 (.ofList [3, 4, 5, 6, 7, 8, 9]) 7 (.ofList [0, 3, 4, 5, 6, 8, 9])))) moP (by kernel_rfl) ?_
 refine RD.p rfl rfl rfl rfl (fun w' => O.fldA fl26_0 (by decide) rfl) ?_
 refine RD.q rfl rfl rfl rfl (fun w' hf => O.load sc5 rfl (Cs.adds [0] ((hM.bx (i := 0) rfl).fut hf) rfl)) ?_
 refine RD.alt ?_ ?_
 ·refine obindE hF fun y21 hx22 hF => ?_
  refine RD.mcall rfl rfl trivial Try.func30 bd30 rfl rfl (c_trans_protocols _ _ hx22) fun v w23 hv => ?_
  obtain ⟨g25, rfl, hN24⟩ := hv
  refine ⟨fun _ => hN24.fut, ?_⟩
  replace hM := hM.call hN24
  by_cases hk27 : (s1.f_Proto == 6) = true
  ·rw [if_pos hk27] at hF
   refine RD.q rfl rfl rfl rfl (fun w' hf => O.lkT ((hM.mapAt (i := 1) rfl).fut hf) Try.underlying64 Try.underlying5 rfl rfl (lk_hit hk27)) ?_
   refine RD.p rfl rfl rfl rfl (fun w' => O.move rfl) ?_
   refine RD.p rfl rfl rfl rfl (fun w' => O.ext rfl rfl) ?_
   refine RD.p rfl rfl rfl rfl (fun w' => O.ext rfl rfl) ?_
   refine RD.meff rfl rfl (E.alloc hM ze62) rfl fun v w29 hv => ?_
   clear hM
   obtain ⟨g28, rfl, hM, hf⟩ := hv
   refine ⟨fun _ => hf, ?_⟩
   refine RD.meffs rfl rfl rfl (E.stB (j := 2) (off := 0) (vs := [vI 20, vI 16, .func (.func 49) #[] #[], .func (.func 50) #[] #[], .func (.func 51) #[] #[]]) (cs' := [vI 20, vI 16, .func (.func 49) #[] #[], .func (.func 50) #[] #[], .func (.func 51) #[] #[]]) hM rfl sz62 rfl (adds_eq [] rfl) rfl rfl (One.all rfl) rfl rfl) fun w31 hM1 => ?_
   clear hM
   have hM := hM1
   clear hM1
   refine RD.p rfl rfl rfl rfl (fun w' => O.assign rfl) ?_
   refine RD.nil ?_
   refine KQ.thn hQ20 ?_
   clear hQ20 Q20
   refine KC.seqH fun Q32 hQ32 => ?_
   refine KC.block ?_
   refine sr fun Q33 hQ33 => ?_
   refine vm rfl rfl ?_
   refine RL.val (O.not rfl) rfl ?_
   refine va rfl rfl ?_
   refine nt hQ33 ?_
   clear hQ33 Q33
   refine KC.condF rfl ?_
   refine sr fun Q34 hQ34 => ?_
   refine RL.val (O.loadN (cs := [v8 s1.f_Proto, v16 s1.f_Src, v16 s1.f_Dst, v32 s1.f_Seq, v32 s1.f_Ack, v8 s1.f_Flags, v16 s1.f_Window, v16 s1.f_Urgent, .slice A2 (s1.f_Options).length c3, v8 s1.f_Type, v8 s1.f_Code, .slice A5 (s1.f_Data).length c6]) ag26 rfl (Cs.addsN [] ((hM.bx (i := 0) rfl)) rfl)) rfl ?_
   refine obindE hF fun y35 hx36 hF => ?_
   refine RL.call Try.func13 bd13 rfl rfl (c_trans_Right _ s1 _ _ (hM.inp hr4 Off.nil) _ _ (hM.inp hr7 Off.nil) _ hx36) fun v w37 hv => ?_
   obtain ⟨rfl, hN38⟩ := hv
   replace hM := hM.call0 hN38
   refine RL.val (O.not rfl) rfl ?_
   refine va rfl rfl ?_
   refine nt hQ34 ?_
   clear hQ34 Q34
   refine KC.cond rfl (fun hc => ?_) (fun hc => ?_)
   ·rw [if_pos hc] at hF
    refine sr fun Q39 hQ39 => ?_
    refine va rfl rfl ?_
    refine va rfl rfl ?_
    refine nt hQ39 ?_
    clear hQ39 Q39
    refine KC.ret ?_
    refine KQ.blk_r ?_
    refine KQ.thr hQ32 ?_
    clear hQ32 Q32
    have hE := Option.some.inj hF
    clear hF
    subst hE
    replace hM := hM.nilrow 5 1
    replace hM := hM.pick [3] rfl (by decide)
    refine KQ.rets Try.results11 (RVs.cons (RV.tm rfl) (RVs.cons (RV.tm rfl) RVs.nil)) ?_
    exact ⟨_, rfl, none, 0, rfl, hM⟩
   rw [if_neg (ne_true hc)] at hF
   refine KC.skip ?_
   refine KQ.blk_n ?_
   refine KQ.thn hQ32 ?_
   clear hQ32 Q32
   refine KC.cut (fun a w77 => ∃ (A74 : Option Addr) (c75 : Nat) (ok72 : Bool) (ahead76 : List Int), Kn 64 [(3, .pointer (some ⟨g17, 0, none⟩)), (8, .pointer (some ⟨g28, 0, none⟩)), (9, vB ok72), (10, .slice A74 (ahead76).length c75)] a ∧ Mem w [] w77 [.box g17 26 [v8 s1.f_Proto, v16 s1.f_Src, v16 s1.f_Dst, v32 s1.f_Seq, v32 s1.f_Ack, v8 s1.f_Flags, v16 s1.f_Window, v16 s1.f_Urgent, .slice A2 (s1.f_Options).length c3, v8 s1.f_Type, v8 s1.f_Code, .slice A5 (s1.f_Data).length c6], .box g28 62 [vI 20, vI 16, .func (.func 49) #[] #[], .func (.func 50) #[] #[], .func (.func 51) #[] #[]], .row A74 c75 5 1 (ahead76).length ((ahead76).flatMap (eI .u8))] ∧ F_trans_Put_j1 s1 ok72 ahead76 = some r) ?_ ?_
   ·replace hM := hM.drewN 1
    refine KC.draw [] [4] [1, 4, 7] [0, 5, 6, 8, 9, 10, 11, 12] (.cons 0 (.cons 2 (.cons 3 (.cons 5 (.cons 6 (.alt 1 (.ofList [4, 7, 8, 9, 10, 11, 12]) 4 (.ofList [1, 7, 8, 9, 10, 11, 12]))))))) moP (by kernel_rfl) ?_
    refine RD.p rfl rfl rfl rfl (fun w' => O.fldA fl26_0 (by decide) rfl) ?_
    refine RD.q rfl rfl rfl rfl (fun w' hf => O.loadN (cs := [vI 20, vI 16, .func (.func 49) #[] #[], .func (.func 50) #[] #[], .func (.func 51) #[] #[]]) ag62 rfl (Cs.addsN [] ((hM.bx (i := 2) rfl).fut hf) rfl)) ?_
    refine RD.q rfl rfl rfl rfl (fun w' hf => O.loadN (cs := [v8 s1.f_Proto, v16 s1.f_Src, v16 s1.f_Dst, v32 s1.f_Seq, v32 s1.f_Ack, v8 s1.f_Flags, v16 s1.f_Window, v16 s1.f_Urgent, .slice A2 (s1.f_Options).length c3, v8 s1.f_Type, v8 s1.f_Code, .slice A5 (s1.f_Data).length c6]) ag26 rfl (Cs.addsN [] ((hM.bx (i := 0) rfl).fut hf) rfl)) ?_
    refine RD.p rfl rfl rfl rfl (fun w' => O.move rfl) ?_
    refine RD.p rfl rfl rfl rfl (fun w' => O.move rfl) ?_
    refine RD.alt ?_ ?_
    ·refine RD.mq rfl rfl (O.load sc5 rfl (Cs.adds [0] ((hM.bx (i := 0) rfl)) rfl)) rfl ?_
     refine RD.micall rfl rfl rfl Try.func32 bd32 rfl rfl rfl Try.ntmps32 rfl ?_
     refine sr fun Q40 hQ40 => ?_
     refine RL.eff (E.box (vs := [vI 20, vI 16, .func (.func 49) #[] #[], .func (.func 50) #[] #[], .func (.func 51) #[] #[]]) hM rfl rfl) rfl fun v w42 hv => ?_
     clear hM
     obtain ⟨g41, rfl, hM, hf⟩ := hv
     refine RL.eff (E.box (vs := [v8 s1.f_Proto, v16 s1.f_Src, v16 s1.f_Dst, v32 s1.f_Seq, v32 s1.f_Ack, v8 s1.f_Flags, v16 s1.f_Window, v16 s1.f_Urgent, .slice A2 (s1.f_Options).length c3, v8 s1.f_Type, v8 s1.f_Code, .slice A5 (s1.f_Data).length c6]) hM rfl rfl) rfl fun v w45 hv => ?_
     clear hM
     obtain ⟨g44, rfl, hM, hf⟩ := hv
     refine va rfl rfl ?_
     refine nt hQ40 ?_
     clear hQ40 Q40
     replace hM := hM.pick [0, 2, 3, 4] rfl (by decide)
     refine sr fun Q47 hQ47 => ?_
     refine RL.val (O.fldA fl62_0 (by decide) rfl) rfl ?_
     refine RL.val (O.load sc3 rfl (Cs.adds [0] ((hM.bx (i := 2) rfl)) rfl)) rfl ?_
     refine RL.val (O.fldA fl26_8 (by decide) rfl) rfl ?_
     refine RL.val (O.load sc24 rfl (Cs.adds [8] ((hM.bx (i := 3) rfl)) rfl)) rfl ?_
     refine RL.val (O.len sl24 rfl) rfl ?_
     refine RL.val (O.add rfl rfl) rfl ?_
     refine RL.val (O.fldA fl26_11 (by decide) rfl) rfl ?_
     refine RL.val (O.load sc24 rfl (Cs.adds [11] ((hM.bx (i := 3) rfl)) rfl)) rfl ?_
     refine RL.val (O.len sl24 rfl) rfl ?_
     refine RL.val (O.add rfl rfl) rfl ?_
     refine va rfl rfl ?_
     refine nt hQ47 ?_
     clear hQ47 Q47
     refine KC.ret ?_
     refine KQ.rets Try.results32 (RVs.cons (RV.tm rfl) RVs.nil) ?_
     refine ⟨.int .i64 (IntKind.i64.wrap ((IntKind.i64.wrap (20 + (s1.f_Options.length : Int))) + (s1.f_Data.length : Int))), rfl, ?_⟩
     refine obindE hF fun y48 hx49 hF => ?_
     refine RD.mcall rfl rfl trivial Try.func31 bd31 rfl rfl (c_trans_pseudo _ s1.f_Proto (IntKind.i64.wrap ((IntKind.i64.wrap (20 + (s1.f_Options.length : Int))) + (s1.f_Data.length : Int))) _ _ src8 (hM.inp hr11 Off.nil) _ _ dst12 (hM.inp hr15 Off.nil) _ hx49) fun v w50 hv => ?_
     obtain ⟨A52, c53, rfl, hN51⟩ := hv
     refine ⟨fun _ => hN51.fut, ?_⟩
     replace hM := hM.call hN51
     refine RD.p rfl rfl rfl rfl (fun w' => O.move rfl) ?_
     refine RD.p rfl rfl rfl rfl (fun w' => O.ext rfl rfl) ?_
     refine RD.p rfl rfl rfl rfl (fun w' => O.ext rfl rfl) ?_
     refine RD.p rfl rfl rfl rfl (fun w' => O.assign rfl) ?_
     refine RD.p rfl rfl rfl rfl (fun w' => O.assign rfl) ?_
     refine RD.nil ?_
     refine KQ.then_k ?_
     replace hM := hM.pick [0, 1, 4] rfl (by decide)
     exact fun a ha => ⟨A52, c53, y48.2, y48.1, ha.less (less_cons rfl (less_cons rfl (less_cons rfl (less_cons rfl less_nil)))), hM, hF⟩
    refine RD.micall rfl rfl rfl Try.func32 bd32 rfl rfl rfl Try.ntmps32 rfl ?_
    refine sr fun Q55 hQ55 => ?_
    refine RL.eff (E.box (vs := [vI 20, vI 16, .func (.func 49) #[] #[], .func (.func 50) #[] #[], .func (.func 51) #[] #[]]) hM rfl rfl) rfl fun v w57 hv => ?_
    clear hM
    obtain ⟨g56, rfl, hM, hf⟩ := hv
    refine RL.eff (E.box (vs := [v8 s1.f_Proto, v16 s1.f_Src, v16 s1.f_Dst, v32 s1.f_Seq, v32 s1.f_Ack, v8 s1.f_Flags, v16 s1.f_Window, v16 s1.f_Urgent, .slice A2 (s1.f_Options).length c3, v8 s1.f_Type, v8 s1.f_Code, .slice A5 (s1.f_Data).length c6]) hM rfl rfl) rfl fun v w60 hv => ?_
    clear hM
    obtain ⟨g59, rfl, hM, hf⟩ := hv
    refine va rfl rfl ?_
    refine nt hQ55 ?_
    clear hQ55 Q55
    replace hM := hM.pick [0, 2, 3, 4] rfl (by decide)
    refine sr fun Q62 hQ62 => ?_
    refine RL.val (O.fldA fl62_0 (by decide) rfl) rfl ?_
    refine RL.val (O.load sc3 rfl (Cs.adds [0] ((hM.bx (i := 2) rfl)) rfl)) rfl ?_
    refine RL.val (O.fldA fl26_8 (by decide) rfl) rfl ?_
    refine RL.val (O.load sc24 rfl (Cs.adds [8] ((hM.bx (i := 3) rfl)) rfl)) rfl ?_
    refine RL.val (O.len sl24 rfl) rfl ?_
    refine RL.val (O.add rfl rfl) rfl ?_
    refine RL.val (O.fldA fl26_11 (by decide) rfl) rfl ?_
    refine RL.val (O.load sc24 rfl (Cs.adds [11] ((hM.bx (i := 3) rfl)) rfl)) rfl ?_
    refine RL.val (O.len sl24 rfl) rfl ?_
    refine RL.val (O.add rfl rfl) rfl ?_
    refine va rfl rfl ?_
    refine nt hQ62 ?_
    clear hQ62 Q62
    refine KC.ret ?_
    refine KQ.rets Try.results32 (RVs.cons (RV.tm rfl) RVs.nil) ?_
    refine ⟨.int .i64 (IntKind.i64.wrap ((IntKind.i64.wrap (20 + (s1.f_Options.length : Int))) + (s1.f_Data.length : Int))), rfl, ?_⟩
    refine RD.mq rfl rfl (O.load sc5 rfl (Cs.adds [0] ((hM.bx (i := 0) rfl)) rfl)) rfl ?_
    refine obindE hF fun y63 hx64 hF => ?_
    refine RD.mcall rfl rfl trivial Try.func31 bd31 rfl rfl (c_trans_pseudo _ s1.f_Proto (IntKind.i64.wrap ((IntKind.i64.wrap (20 + (s1.f_Options.length : Int))) + (s1.f_Data.length : Int))) _ _ src8 (hM.inp hr11 Off.nil) _ _ dst12 (hM.inp hr15 Off.nil) _ hx64) fun v w65 hv => ?_
    obtain ⟨A67, c68, rfl, hN66⟩ := hv
    refine ⟨fun _ => hN66.fut, ?_⟩
    replace hM := hM.call hN66
    refine RD.p rfl rfl rfl rfl (fun w' => O.move rfl) ?_
    refine RD.p rfl rfl rfl rfl (fun w' => O.ext rfl rfl) ?_
    refine RD.p rfl rfl rfl rfl (fun w' => O.ext rfl rfl) ?_
    refine RD.p rfl rfl rfl rfl (fun w' => O.assign rfl) ?_
    refine RD.p rfl rfl rfl rfl (fun w' => O.assign rfl) ?_
    refine RD.nil ?_
    refine KQ.then_k ?_
    replace hM := hM.pick [0, 1, 4] rfl (by decide)
    exact fun a ha => ⟨A67, c68, y63.2, y63.1, ha.less (less_cons rfl (less_cons rfl (less_cons rfl (less_cons rfl less_nil)))), hM, hF⟩
   rintro a w77 ⟨A74, c75, ok72, ahead76, ha, hM, hF⟩
   refine KC.app ha ?_
   clear ha
   unfold F_trans_Put_j1 at hF
   refine KC.seqH fun Q78 hQ78 => ?_
   refine sr fun Q79 hQ79 => ?_
   refine vm rfl rfl ?_
   refine RL.val (O.not rfl) rfl ?_
   refine nt hQ79 ?_
   clear hQ79 Q79
   refine KC.cond rfl (fun hc => ?_) (fun hc => ?_)
   ·rw [if_pos hc] at hF
    refine sr fun Q80 hQ80 => ?_
    refine va rfl rfl ?_
    refine va rfl rfl ?_
    refine nt hQ80 ?_
    clear hQ80 Q80
    refine KC.ret ?_
    refine KQ.thr hQ78 ?_
    clear hQ78 Q78
    have hE := Option.some.inj hF
    clear hF
    subst hE
    replace hM := hM.nilrow 5 1
    replace hM := hM.pick [3] rfl (by decide)
    refine KQ.rets Try.results11 (RVs.cons (RV.tm rfl) (RVs.cons (RV.tm rfl) RVs.nil)) ?_
    exact ⟨_, rfl, none, 0, rfl, hM⟩
   rw [if_neg (ne_true hc)] at hF
   refine KC.skip ?_
   refine KQ.thn hQ78 ?_
   clear hQ78 Q78
   refine sr fun Q81 hQ81 => ?_
   refine RL.eff (E.alloc hM ze70) rfl fun v w83 hv => ?_
   clear hM
   obtain ⟨g82, rfl, hM, hf⟩ := hv
   refine nt hQ81 ?_
   clear hQ81 Q81
   refine sr fun Q85 hQ85 => ?_
   refine RL.val (O.fldA fl62_3 (by decide) rfl) rfl ?_
   refine RL.val (O.load sc59 rfl (Cs.adds [3] ((hM.bx (i := 1) rfl)) rfl)) rfl ?_
   refine RL.val (O.loadN (cs := [v8 s1.f_Proto, v16 s1.f_Src, v16 s1.f_Dst, v32 s1.f_Seq, v32 s1.f_Ack, v8 s1.f_Flags, v16 s1.f_Window, v16 s1.f_Urgent, .slice A2 (s1.f_Options).length c3, v8 s1.f_Type, v8 s1.f_Code, .slice A5 (s1.f_Data).length c6]) ag26 rfl (Cs.addsN [] ((hM.bx (i := 0) rfl)) rfl)) rfl ?_
   replace hM := hM.nilrow 5 1
   refine obindE hF fun y87 hx88 hF => ?_
   refine RL.callv (first := []) (captured := []) rfl Try.func50 bd50 rfl rfl (c_trans_putTCP _ _ _ (T_bits_Writer.mk ([] : List Int)) _ _ (hM.lent [3, 4] rfl (by decide)) s1 _ _ (hM.inp hr4 Off.nil) (hM.offI [3, 4] rfl hr4 (Off.nil)) _ _ (hM.inp hr7 Off.nil) (hM.offI [3, 4] rfl hr7 (Off.nil)) _ hx88) fun v w89 hv => ?_
   obtain ⟨A91, c92, rfl, hN90⟩ := hv
   replace hM := hM.callL [3, 4] [0, 1, 2] rfl rfl (by decide) rfl hN90
   refine nt hQ85 ?_
   clear hQ85 Q85
   refine sr fun Q94 hQ94 => ?_
   refine RL.val (O.fldA fl26_11 (by decide) rfl) rfl ?_
   refine RL.val (O.load sc24 rfl (Cs.adds [11] ((hM.bx (i := 0) rfl)) rfl)) rfl ?_
   refine obindE hF fun y95 hx96 hF => ?_
   refine RL.call Try.func33 bd33 rfl rfl (c_bits_Writer_Raw _ _ _ y87 _ _ (hM.lent [3, 4] rfl (by decide)) _ _ s1.f_Data (hM.inp hr7 Off.nil) (hM.offI [3, 4] rfl hr7 (Off.nil)) _ hx96) fun v w97 hv => ?_
   obtain ⟨A99, c100, rfl, hN98⟩ := hv
   replace hM := hM.callL [3, 4] [0, 1, 2] rfl rfl (by decide) rfl hN98
   refine nt hQ94 ?_
   clear hQ94 Q94
   refine sr fun Q102 hQ102 => ?_
   refine vm rfl rfl ?_
   refine obindE hF fun y103 hx104 hF => ?_
   refine RL.call Try.func35 bd35 rfl rfl (c_bits_Writer_Bytes _ _ _ y95.2 _ _ (hM.lent [3, 4] rfl (by decide)) _ hx104) fun v w105 hv => ?_
   obtain ⟨A107, c108, A110, c111, rfl, hN106⟩ := hv
   replace hM := hM.callL [3, 4] [0, 1, 2] rfl rfl (by decide) rfl hN106
   refine RL.eff (E.bslR (enc := (eI .u8)) (us := [.slice A74 (ahead76).length c75, .slice A110 (y103.1).length c111]) (xss := [ahead76, y103.1]) (Rdl.cons ((hM.rd (i := 2) rfl)) (Rdl.cons ((hM.rd (i := 5) rfl)) Rdl.nil)) hM sl88 ze24 rfl rfl rfl rfl rfl) rfl fun v w113 hv => ?_
   clear hM
   obtain ⟨A114, rfl, hM, hf, hr115⟩ := hv
   refine obindE hF fun y116 hx117 hF => ?_
   refine RL.call Try.func34 bd34 rfl rfl (c_sum_Of _ _ _ ([ahead76, y103.1]) (hr115) _ hx117) fun v w118 hv => ?_
   obtain ⟨rfl, hN119⟩ := hv
   have hr115 := hr115.fut hN119.fut
   replace hM := hM.call0 hN119
   refine va rfl rfl ?_
   refine nt hQ102 ?_
   clear hQ102 Q102
   replace hM := hM.pick [0, 1, 3, 4] rfl (by decide)
   refine KC.cut (fun a w129 => ∃ (nv128 : Int), Kn 64 [(8, .pointer (some ⟨g28, 0, none⟩)), (11, .pointer (some ⟨g82, 0, none⟩)), (12, v16 nv128)] a ∧ Mem w [] w129 [.box g28 62 [vI 20, vI 16, .func (.func 49) #[] #[], .func (.func 50) #[] #[], .func (.func 51) #[] #[]], .row A107 c108 5 1 (y103.2.f_b).length ((y103.2.f_b).flatMap (eI .u8)), .box g82 70 [.slice A107 (y103.2.f_b).length c108]] ∧ F_trans_Put_j2 y103 nv128 = some r) ?_ ?_
   ·refine KC.cut (fun a w124 => ∃ (t123 : Bool), Kn 64 [(8, .pointer (some ⟨g28, 0, none⟩)), (11, .pointer (some ⟨g82, 0, none⟩)), (12, v16 y116), (57, vB t123)] a ∧ Mem w [] w124 [.box g28 62 [vI 20, vI 16, .func (.func 49) #[] #[], .func (.func 50) #[] #[], .func (.func 51) #[] #[]], .row A107 c108 5 1 (y103.2.f_b).length ((y103.2.f_b).flatMap (eI .u8)), .box g82 70 [.slice A107 (y103.2.f_b).length c108]] ∧ F_trans_Put_j3 y103 y116 t123 = some r) ?_ ?_
    ·refine KC.region ?_
     refine vm rfl rfl ?_
     refine RL.val (O.eql rfl rfl) rfl ?_
     refine vm rfl rfl ?_
     refine RL.bcase (t := 53) rfl (fun hc => ?_) (fun hc => ?_)
     ·rw [if_pos hc] at hF
      refine RL.gval rfl rfl (O.fldA fl26_0 (by decide) rfl) rfl ?_
      refine RL.gval rfl rfl (O.load sc5 rfl (Cs.adds [0] ((hM.bx (i := 0) rfl)) rfl)) rfl ?_
      refine RL.gval rfl rfl (O.eql rfl rfl) rfl ?_
      refine RL.val (O.pickt rfl rfl) rfl ?_
      refine RL.nil ?_
      refine KQ.then_k ?_
      replace hM := hM.pick [1, 3, 2] rfl (by decide)
      exact fun a ha => ⟨(s1.f_Proto == 17), ha.less (less_cons rfl (less_cons rfl (less_cons rfl (less_cons rfl less_nil)))), hM, hF⟩
     rw [if_neg (ne_true hc)] at hF
     refine RL.brun1 4 57 false (by kernel_rfl) ?_
     refine RL.nil ?_
     refine KQ.then_k ?_
     replace hM := hM.pick [1, 3, 2] rfl (by decide)
     exact fun a ha => ⟨false, ha.less (less_cons rfl (less_cons rfl (less_cons rfl (less_cons rfl less_nil)))), hM, hF⟩
    rintro a w124 ⟨t123, ha, hM, hF⟩
    refine KC.app ha ?_
    clear ha
    unfold F_trans_Put_j3 at hF
    refine KC.cond rfl (fun hc => ?_) (fun hc => ?_)
    ·rw [if_pos hc] at hF
     refine KC.region ?_
     refine va rfl rfl ?_
     refine RL.nil ?_
     refine KQ.then_k ?_
     exact fun a ha => ⟨65535, ha.less (less_cons rfl (less_cons rfl (less_cons rfl less_nil))), hM, hF⟩
    rw [if_neg (ne_true hc)] at hF
    refine KC.skip ?_
    refine KQ.then_k ?_
    exact fun a ha => ⟨y116, ha.less (less_cons rfl (less_cons rfl (less_cons rfl less_nil))), hM, hF⟩
   rintro a w129 ⟨nv128, ha, hM, hF⟩
   refine KC.app ha ?_
   clear ha
   unfold F_trans_Put_j2 at hF
   refine sr fun Q130 hQ130 => ?_
   refine RL.val (O.fldA fl62_1 (by decide) rfl) rfl ?_
   refine RL.val (O.load sc3 rfl (Cs.adds [1] ((hM.bx (i := 0) rfl)) rfl)) rfl ?_
   refine vm rfl rfl ?_
   refine RL.val (O.conv un22 Try.underlying76 rfl) rfl ?_
   refine obindE hF fun y131 hx132 hF => ?_
   refine RL.call Try.func36 bd36 rfl rfl (c_bits_Writer_Set _ _ _ y103.2 _ _ (hM.lent [2, 1] rfl (by decide)) 16 (IntKind.u64.wrap nv128) 2 _ hx132) fun v w133 hv => ?_
   obtain ⟨A135, c136, rfl, hN134⟩ := hv
   replace hM := hM.callL [2, 1] [0] rfl rfl (by decide) rfl hN134
   refine nt hQ130 ?_
   clear hQ130 Q130
   refine sr fun Q138 hQ138 => ?_
   refine obindE hF fun y139 hx140 hF => ?_
   refine RL.call Try.func35 bd35 rfl rfl (c_bits_Writer_Bytes _ _ _ y131.2 _ _ (hM.lent [1, 2] rfl (by decide)) _ hx140) fun v w141 hv => ?_
   obtain ⟨A143, c144, A146, c147, rfl, hN142⟩ := hv
   replace hM := hM.callL [1, 2] [0] rfl rfl (by decide) rfl hN142
   refine va rfl rfl ?_
   refine va rfl rfl ?_
   refine nt hQ138 ?_
   clear hQ138 Q138
   refine KC.ret ?_
   have hE := Option.some.inj hF
   clear hF
   subst hE
   replace hM := hM.pick [3] rfl (by decide)
   refine KQ.rets Try.results11 (RVs.cons (RV.tm rfl) (RVs.cons (RV.tm rfl) RVs.nil)) ?_
   exact ⟨_, rfl, A146, c147, rfl, hM⟩
  rw [if_neg hk27] at hF
  by_cases hk149 : (s1.f_Proto == 17) = true
  ·rw [if_pos hk149] at hF
   refine RD.q rfl rfl rfl rfl (fun w' hf => O.lkT ((hM.mapAt (i := 1) rfl).fut hf) Try.underlying64 Try.underlying5 rfl rfl (lk_miss hk27 (lk_hit hk149))) ?_
   refine RD.p rfl rfl rfl rfl (fun w' => O.move rfl) ?_
   refine RD.p rfl rfl rfl rfl (fun w' => O.ext rfl rfl) ?_
   refine RD.p rfl rfl rfl rfl (fun w' => O.ext rfl rfl) ?_
   refine RD.meff rfl rfl (E.alloc hM ze62) rfl fun v w151 hv => ?_
   clear hM
   obtain ⟨g150, rfl, hM, hf⟩ := hv
   refine ⟨fun _ => hf, ?_⟩
   refine RD.meffs rfl rfl rfl (E.stB (j := 2) (off := 0) (vs := [vI 8, vI 6, .func (.func 52) #[] #[], .func (.func 53) #[] #[], .func (.func 54) #[] #[]]) (cs' := [vI 8, vI 6, .func (.func 52) #[] #[], .func (.func 53) #[] #[], .func (.func 54) #[] #[]]) hM rfl sz62 rfl (adds_eq [] rfl) rfl rfl (One.all rfl) rfl rfl) fun w153 hM1 => ?_
   clear hM
   have hM := hM1
   clear hM1
   refine RD.p rfl rfl rfl rfl (fun w' => O.assign rfl) ?_
   refine RD.nil ?_
   refine KQ.thn hQ20 ?_
   clear hQ20 Q20
   refine KC.seqH fun Q154 hQ154 => ?_
   refine KC.block ?_
   refine sr fun Q155 hQ155 => ?_
   refine vm rfl rfl ?_
   refine RL.val (O.not rfl) rfl ?_
   refine va rfl rfl ?_
   refine nt hQ155 ?_
   clear hQ155 Q155
   refine KC.condF rfl ?_
   refine sr fun Q156 hQ156 => ?_
   refine RL.val (O.loadN (cs := [v8 s1.f_Proto, v16 s1.f_Src, v16 s1.f_Dst, v32 s1.f_Seq, v32 s1.f_Ack, v8 s1.f_Flags, v16 s1.f_Window, v16 s1.f_Urgent, .slice A2 (s1.f_Options).length c3, v8 s1.f_Type, v8 s1.f_Code, .slice A5 (s1.f_Data).length c6]) ag26 rfl (Cs.addsN [] ((hM.bx (i := 0) rfl)) rfl)) rfl ?_
   refine obindE hF fun y157 hx158 hF => ?_
   refine RL.call Try.func13 bd13 rfl rfl (c_trans_Right _ s1 _ _ (hM.inp hr4 Off.nil) _ _ (hM.inp hr7 Off.nil) _ hx158) fun v w159 hv => ?_
   obtain ⟨rfl, hN160⟩ := hv
   replace hM := hM.call0 hN160
   refine RL.val (O.not rfl) rfl ?_
   refine va rfl rfl ?_
   refine nt hQ156 ?_
   clear hQ156 Q156
   refine KC.cond rfl (fun hc => ?_) (fun hc => ?_)
   ·rw [if_pos hc] at hF
    refine sr fun Q161 hQ161 => ?_
    refine va rfl rfl ?_
    refine va rfl rfl ?_
    refine nt hQ161 ?_
    clear hQ161 Q161
    refine KC.ret ?_
    refine KQ.blk_r ?_
    refine KQ.thr hQ154 ?_
    clear hQ154 Q154
    have hE := Option.some.inj hF
    clear hF
    subst hE
    replace hM := hM.nilrow 5 1
    replace hM := hM.pick [3] rfl (by decide)
    refine KQ.rets Try.results11 (RVs.cons (RV.tm rfl) (RVs.cons (RV.tm rfl) RVs.nil)) ?_
    exact ⟨_, rfl, none, 0, rfl, hM⟩
   rw [if_neg (ne_true hc)] at hF
   refine KC.skip ?_
   refine KQ.blk_n ?_
   refine KQ.thn hQ154 ?_
   clear hQ154 Q154
   refine KC.cut (fun a w199 => ∃ (A196 : Option Addr) (c197 : Nat) (ok194 : Bool) (ahead198 : List Int), Kn 64 [(3, .pointer (some ⟨g17, 0, none⟩)), (8, .pointer (some ⟨g150, 0, none⟩)), (9, vB ok194), (10, .slice A196 (ahead198).length c197)] a ∧ Mem w [] w199 [.box g17 26 [v8 s1.f_Proto, v16 s1.f_Src, v16 s1.f_Dst, v32 s1.f_Seq, v32 s1.f_Ack, v8 s1.f_Flags, v16 s1.f_Window, v16 s1.f_Urgent, .slice A2 (s1.f_Options).length c3, v8 s1.f_Type, v8 s1.f_Code, .slice A5 (s1.f_Data).length c6], .box g150 62 [vI 8, vI 6, .func (.func 52) #[] #[], .func (.func 53) #[] #[], .func (.func 54) #[] #[]], .row A196 c197 5 1 (ahead198).length ((ahead198).flatMap (eI .u8))] ∧ F_trans_Put_j4 s1 ok194 ahead198 = some r) ?_ ?_
   ·replace hM := hM.drewN 1
    refine KC.draw [] [4] [1, 4, 7] [0, 5, 6, 8, 9, 10, 11, 12] (.cons 0 (.cons 2 (.cons 3 (.cons 5 (.cons 6 (.alt 1 (.ofList [4, 7, 8, 9, 10, 11, 12]) 4 (.ofList [1, 7, 8, 9, 10, 11, 12]))))))) moP (by kernel_rfl) ?_
    refine RD.p rfl rfl rfl rfl (fun w' => O.fldA fl26_0 (by decide) rfl) ?_
    refine RD.q rfl rfl rfl rfl (fun w' hf => O.loadN (cs := [vI 8, vI 6, .func (.func 52) #[] #[], .func (.func 53) #[] #[], .func (.func 54) #[] #[]]) ag62 rfl (Cs.addsN [] ((hM.bx (i := 2) rfl).fut hf) rfl)) ?_
    refine RD.q rfl rfl rfl rfl (fun w' hf => O.loadN (cs := [v8 s1.f_Proto, v16 s1.f_Src, v16 s1.f_Dst, v32 s1.f_Seq, v32 s1.f_Ack, v8 s1.f_Flags, v16 s1.f_Window, v16 s1.f_Urgent, .slice A2 (s1.f_Options).length c3, v8 s1.f_Type, v8 s1.f_Code, .slice A5 (s1.f_Data).length c6]) ag26 rfl (Cs.addsN [] ((hM.bx (i := 0) rfl).fut hf) rfl)) ?_
    refine RD.p rfl rfl rfl rfl (fun w' => O.move rfl) ?_
    refine RD.p rfl rfl rfl rfl (fun w' => O.move rfl) ?_
    refine RD.alt ?_ ?_
    ·refine RD.mq rfl rfl (O.load sc5 rfl (Cs.adds [0] ((hM.bx (i := 0) rfl)) rfl)) rfl ?_
     refine RD.micall rfl rfl rfl Try.func32 bd32 rfl rfl rfl Try.ntmps32 rfl ?_
     refine sr fun Q162 hQ162 => ?_
     refine RL.eff (E.box (vs := [vI 8, vI 6, .func (.func 52) #[] #[], .func (.func 53) #[] #[], .func (.func 54) #[] #[]]) hM rfl rfl) rfl fun v w164 hv => ?_
     clear hM
     obtain ⟨g163, rfl, hM, hf⟩ := hv
     refine RL.eff (E.box (vs := [v8 s1.f_Proto, v16 s1.f_Src, v16 s1.f_Dst, v32 s1.f_Seq, v32 s1.f_Ack, v8 s1.f_Flags, v16 s1.f_Window, v16 s1.f_Urgent, .slice A2 (s1.f_Options).length c3, v8 s1.f_Type, v8 s1.f_Code, .slice A5 (s1.f_Data).length c6]) hM rfl rfl) rfl fun v w167 hv => ?_
     clear hM
     obtain ⟨g166, rfl, hM, hf⟩ := hv
     refine va rfl rfl ?_
     refine nt hQ162 ?_
     clear hQ162 Q162
     replace hM := hM.pick [0, 2, 3, 4] rfl (by decide)
     refine sr fun Q169 hQ169 => ?_
     refine RL.val (O.fldA fl62_0 (by decide) rfl) rfl ?_
     refine RL.val (O.load sc3 rfl (Cs.adds [0] ((hM.bx (i := 2) rfl)) rfl)) rfl ?_
     refine RL.val (O.fldA fl26_8 (by decide) rfl) rfl ?_
     refine RL.val (O.load sc24 rfl (Cs.adds [8] ((hM.bx (i := 3) rfl)) rfl)) rfl ?_
     refine RL.val (O.len sl24 rfl) rfl ?_
     refine RL.val (O.add rfl rfl) rfl ?_
     refine RL.val (O.fldA fl26_11 (by decide) rfl) rfl ?_
     refine RL.val (O.load sc24 rfl (Cs.adds [11] ((hM.bx (i := 3) rfl)) rfl)) rfl ?_
     refine RL.val (O.len sl24 rfl) rfl ?_
     refine RL.val (O.add rfl rfl) rfl ?_
     refine va rfl rfl ?_
     refine nt hQ169 ?_
     clear hQ169 Q169
     refine KC.ret ?_
     refine KQ.rets Try.results32 (RVs.cons (RV.tm rfl) RVs.nil) ?_
     refine ⟨.int .i64 (IntKind.i64.wrap ((IntKind.i64.wrap (8 + (s1.f_Options.length : Int))) + (s1.f_Data.length : Int))), rfl, ?_⟩
     refine obindE hF fun y170 hx171 hF => ?_
     refine RD.mcall rfl rfl trivial Try.func31 bd31 rfl rfl (c_trans_pseudo _ s1.f_Proto (IntKind.i64.wrap ((IntKind.i64.wrap (8 + (s1.f_Options.length : Int))) + (s1.f_Data.length : Int))) _ _ src8 (hM.inp hr11 Off.nil) _ _ dst12 (hM.inp hr15 Off.nil) _ hx171) fun v w172 hv => ?_
     obtain ⟨A174, c175, rfl, hN173⟩ := hv
     refine ⟨fun _ => hN173.fut, ?_⟩
     replace hM := hM.call hN173
     refine RD.p rfl rfl rfl rfl (fun w' => O.move rfl) ?_
     refine RD.p rfl rfl rfl rfl (fun w' => O.ext rfl rfl) ?_
     refine RD.p rfl rfl rfl rfl (fun w' => O.ext rfl rfl) ?_
     refine RD.p rfl rfl rfl rfl (fun w' => O.assign rfl) ?_
     refine RD.p rfl rfl rfl rfl (fun w' => O.assign rfl) ?_
     refine RD.nil ?_
     refine KQ.then_k ?_
     replace hM := hM.pick [0, 1, 4] rfl (by decide)
     exact fun a ha => ⟨A174, c175, y170.2, y170.1, ha.less (less_cons rfl (less_cons rfl (less_cons rfl (less_cons rfl less_nil)))), hM, hF⟩
    refine RD.micall rfl rfl rfl Try.func32 bd32 rfl rfl rfl Try.ntmps32 rfl ?_
    refine sr fun Q177 hQ177 => ?_
    refine RL.eff (E.box (vs := [vI 8, vI 6, .func (.func 52) #[] #[], .func (.func 53) #[] #[], .func (.func 54) #[] #[]]) hM rfl rfl) rfl fun v w179 hv => ?_
    clear hM
    obtain ⟨g178, rfl, hM, hf⟩ := hv
    refine RL.eff (E.box (vs := [v8 s1.f_Proto, v16 s1.f_Src, v16 s1.f_Dst, v32 s1.f_Seq, v32 s1.f_Ack, v8 s1.f_Flags, v16 s1.f_Window, v16 s1.f_Urgent, .slice A2 (s1.f_Options).length c3, v8 s1.f_Type, v8 s1.f_Code, .slice A5 (s1.f_Data).length c6]) hM rfl rfl) rfl fun v w182 hv => ?_
    clear hM
    obtain ⟨g181, rfl, hM, hf⟩ := hv
    refine va rfl rfl ?_
    refine nt hQ177 ?_
    clear hQ177 Q177
    replace hM := hM.pick [0, 2, 3, 4] rfl (by decide)
    refine sr fun Q184 hQ184 => ?_
    refine RL.val (O.fldA fl62_0 (by decide) rfl) rfl ?_
    refine RL.val (O.load sc3 rfl (Cs.adds [0] ((hM.bx (i := 2) rfl)) rfl)) rfl ?_
    refine RL.val (O.fldA fl26_8 (by decide) rfl) rfl ?_
    refine RL.val (O.load sc24 rfl (Cs.adds [8] ((hM.bx (i := 3) rfl)) rfl)) rfl ?_
    refine RL.val (O.len sl24 rfl) rfl ?_
    refine RL.val (O.add rfl rfl) rfl ?_
    refine RL.val (O.fldA fl26_11 (by decide) rfl) rfl ?_
    refine RL.val (O.load sc24 rfl (Cs.adds [11] ((hM.bx (i := 3) rfl)) rfl)) rfl ?_
    refine RL.val (O.len sl24 rfl) rfl ?_
    refine RL.val (O.add rfl rfl) rfl ?_
    refine va rfl rfl ?_
    refine nt hQ184 ?_
    clear hQ184 Q184
    refine KC.ret ?_
    refine KQ.rets Try.results32 (RVs.cons (RV.tm rfl) RVs.nil) ?_
    refine ⟨.int .i64 (IntKind.i64.wrap ((IntKind.i64.wrap (8 + (s1.f_Options.length : Int))) + (s1.f_Data.length : Int))), rfl, ?_⟩
    refine RD.mq rfl rfl (O.load sc5 rfl (Cs.adds [0] ((hM.bx (i := 0) rfl)) rfl)) rfl ?_
    refine obindE hF fun y185 hx186 hF => ?_
    refine RD.mcall rfl rfl trivial Try.func31 bd31 rfl rfl (c_trans_pseudo _ s1.f_Proto (IntKind.i64.wrap ((IntKind.i64.wrap (8 + (s1.f_Options.length : Int))) + (s1.f_Data.length : Int))) _ _ src8 (hM.inp hr11 Off.nil) _ _ dst12 (hM.inp hr15 Off.nil) _ hx186) fun v w187 hv => ?_
    obtain ⟨A189, c190, rfl, hN188⟩ := hv
    refine ⟨fun _ => hN188.fut, ?_⟩
    replace hM := hM.call hN188
    refine RD.p rfl rfl rfl rfl (fun w' => O.move rfl) ?_
    refine RD.p rfl rfl rfl rfl (fun w' => O.ext rfl rfl) ?_
    refine RD.p rfl rfl rfl rfl (fun w' => O.ext rfl rfl) ?_
    refine RD.p rfl rfl rfl rfl (fun w' => O.assign rfl) ?_
    refine RD.p rfl rfl rfl rfl (fun w' => O.assign rfl) ?_
    refine RD.nil ?_
    refine KQ.then_k ?_
    replace hM := hM.pick [0, 1, 4] rfl (by decide)
    exact fun a ha => ⟨A189, c190, y185.2, y185.1, ha.less (less_cons rfl (less_cons rfl (less_cons rfl (less_cons rfl less_nil)))), hM, hF⟩
   rintro a w199 ⟨A196, c197, ok194, ahead198, ha, hM, hF⟩
   refine KC.app ha ?_
   clear ha
   unfold F_trans_Put_j4 at hF
   refine KC.seqH fun Q200 hQ200 => ?_
   refine sr fun Q201 hQ201 => ?_
   refine vm rfl rfl ?_
   refine RL.val (O.not rfl) rfl ?_
   refine nt hQ201 ?_
   clear hQ201 Q201
   refine KC.cond rfl (fun hc => ?_) (fun hc => ?_)
   ·rw [if_pos hc] at hF
    refine sr fun Q202 hQ202 => ?_
    refine va rfl rfl ?_
    refine va rfl rfl ?_
    refine nt hQ202 ?_
    clear hQ202 Q202
    refine KC.ret ?_
    refine KQ.thr hQ200 ?_
    clear hQ200 Q200
    have hE := Option.some.inj hF
    clear hF
    subst hE
    replace hM := hM.nilrow 5 1
    replace hM := hM.pick [3] rfl (by decide)
    refine KQ.rets Try.results11 (RVs.cons (RV.tm rfl) (RVs.cons (RV.tm rfl) RVs.nil)) ?_
    exact ⟨_, rfl, none, 0, rfl, hM⟩
   rw [if_neg (ne_true hc)] at hF
   refine KC.skip ?_
   refine KQ.thn hQ200 ?_
   clear hQ200 Q200
   refine sr fun Q203 hQ203 => ?_
   refine RL.eff (E.alloc hM ze70) rfl fun v w205 hv => ?_
   clear hM
   obtain ⟨g204, rfl, hM, hf⟩ := hv
   refine nt hQ203 ?_
   clear hQ203 Q203
   refine sr fun Q207 hQ207 => ?_
   refine RL.val (O.fldA fl62_3 (by decide) rfl) rfl ?_
   refine RL.val (O.load sc59 rfl (Cs.adds [3] ((hM.bx (i := 1) rfl)) rfl)) rfl ?_
   refine RL.val (O.loadN (cs := [v8 s1.f_Proto, v16 s1.f_Src, v16 s1.f_Dst, v32 s1.f_Seq, v32 s1.f_Ack, v8 s1.f_Flags, v16 s1.f_Window, v16 s1.f_Urgent, .slice A2 (s1.f_Options).length c3, v8 s1.f_Type, v8 s1.f_Code, .slice A5 (s1.f_Data).length c6]) ag26 rfl (Cs.addsN [] ((hM.bx (i := 0) rfl)) rfl)) rfl ?_
   replace hM := hM.nilrow 5 1
   refine obindE hF fun y209 hx210 hF => ?_
   refine RL.callv (first := []) (captured := []) rfl Try.func53 bd53 rfl rfl (c_trans_putUDP _ _ _ (T_bits_Writer.mk ([] : List Int)) _ _ (hM.lent [3, 4] rfl (by decide)) s1 _ _ (hM.inp hr4 Off.nil) (hM.offI [3, 4] rfl hr4 (Off.nil)) _ _ (hM.inp hr7 Off.nil) (hM.offI [3, 4] rfl hr7 (Off.nil)) _ hx210) fun v w211 hv => ?_
   obtain ⟨A213, c214, rfl, hN212⟩ := hv
   replace hM := hM.callL [3, 4] [0, 1, 2] rfl rfl (by decide) rfl hN212
   refine nt hQ207 ?_
   clear hQ207 Q207
   refine sr fun Q216 hQ216 => ?_
   refine RL.val (O.fldA fl26_11 (by decide) rfl) rfl ?_
   refine RL.val (O.load sc24 rfl (Cs.adds [11] ((hM.bx (i := 0) rfl)) rfl)) rfl ?_
   refine obindE hF fun y217 hx218 hF => ?_
   refine RL.call Try.func33 bd33 rfl rfl (c_bits_Writer_Raw _ _ _ y209 _ _ (hM.lent [3, 4] rfl (by decide)) _ _ s1.f_Data (hM.inp hr7 Off.nil) (hM.offI [3, 4] rfl hr7 (Off.nil)) _ hx218) fun v w219 hv => ?_
   obtain ⟨A221, c222, rfl, hN220⟩ := hv
   replace hM := hM.callL [3, 4] [0, 1, 2] rfl rfl (by decide) rfl hN220
   refine nt hQ216 ?_
   clear hQ216 Q216
   refine sr fun Q224 hQ224 => ?_
   refine vm rfl rfl ?_
   refine obindE hF fun y225 hx226 hF => ?_
   refine RL.call Try.func35 bd35 rfl rfl (c_bits_Writer_Bytes _ _ _ y217.2 _ _ (hM.lent [3, 4] rfl (by decide)) _ hx226) fun v w227 hv => ?_
   obtain ⟨A229, c230, A232, c233, rfl, hN228⟩ := hv
   replace hM := hM.callL [3, 4] [0, 1, 2] rfl rfl (by decide) rfl hN228
   refine RL.eff (E.bslR (enc := (eI .u8)) (us := [.slice A196 (ahead198).length c197, .slice A232 (y225.1).length c233]) (xss := [ahead198, y225.1]) (Rdl.cons ((hM.rd (i := 2) rfl)) (Rdl.cons ((hM.rd (i := 5) rfl)) Rdl.nil)) hM sl88 ze24 rfl rfl rfl rfl rfl) rfl fun v w235 hv => ?_
   clear hM
   obtain ⟨A236, rfl, hM, hf, hr237⟩ := hv
   refine obindE hF fun y238 hx239 hF => ?_
   refine RL.call Try.func34 bd34 rfl rfl (c_sum_Of _ _ _ ([ahead198, y225.1]) (hr237) _ hx239) fun v w240 hv => ?_
   obtain ⟨rfl, hN241⟩ := hv
   have hr237 := hr237.fut hN241.fut
   replace hM := hM.call0 hN241
   refine va rfl rfl ?_
   refine nt hQ224 ?_
   clear hQ224 Q224
   replace hM := hM.pick [0, 1, 3, 4] rfl (by decide)
   refine KC.cut (fun a w251 => ∃ (nv250 : Int), Kn 64 [(8, .pointer (some ⟨g150, 0, none⟩)), (11, .pointer (some ⟨g204, 0, none⟩)), (12, v16 nv250)] a ∧ Mem w [] w251 [.box g150 62 [vI 8, vI 6, .func (.func 52) #[] #[], .func (.func 53) #[] #[], .func (.func 54) #[] #[]], .row A229 c230 5 1 (y225.2.f_b).length ((y225.2.f_b).flatMap (eI .u8)), .box g204 70 [.slice A229 (y225.2.f_b).length c230]] ∧ F_trans_Put_j5 y225 nv250 = some r) ?_ ?_
   ·refine KC.cut (fun a w246 => ∃ (t245 : Bool), Kn 64 [(8, .pointer (some ⟨g150, 0, none⟩)), (11, .pointer (some ⟨g204, 0, none⟩)), (12, v16 y238), (57, vB t245)] a ∧ Mem w [] w246 [.box g150 62 [vI 8, vI 6, .func (.func 52) #[] #[], .func (.func 53) #[] #[], .func (.func 54) #[] #[]], .row A229 c230 5 1 (y225.2.f_b).length ((y225.2.f_b).flatMap (eI .u8)), .box g204 70 [.slice A229 (y225.2.f_b).length c230]] ∧ F_trans_Put_j6 y225 y238 t245 = some r) ?_ ?_
    ·refine KC.region ?_
     refine vm rfl rfl ?_
     refine RL.val (O.eql rfl rfl) rfl ?_
     refine vm rfl rfl ?_
     refine RL.bcase (t := 53) rfl (fun hc => ?_) (fun hc => ?_)
     ·rw [if_pos hc] at hF
      refine RL.gval rfl rfl (O.fldA fl26_0 (by decide) rfl) rfl ?_
      refine RL.gval rfl rfl (O.load sc5 rfl (Cs.adds [0] ((hM.bx (i := 0) rfl)) rfl)) rfl ?_
      refine RL.gval rfl rfl (O.eql rfl rfl) rfl ?_
      refine RL.val (O.pickt rfl rfl) rfl ?_
      refine RL.nil ?_
      refine KQ.then_k ?_
      replace hM := hM.pick [1, 3, 2] rfl (by decide)
      exact fun a ha => ⟨(s1.f_Proto == 17), ha.less (less_cons rfl (less_cons rfl (less_cons rfl (less_cons rfl less_nil)))), hM, hF⟩
     rw [if_neg (ne_true hc)] at hF
     refine RL.brun1 4 57 false (by kernel_rfl) ?_
     refine RL.nil ?_
     refine KQ.then_k ?_
     replace hM := hM.pick [1, 3, 2] rfl (by decide)
     exact fun a ha => ⟨false, ha.less (less_cons rfl (less_cons rfl (less_cons rfl (less_cons rfl less_nil)))), hM, hF⟩
    rintro a w246 ⟨t245, ha, hM, hF⟩
    refine KC.app ha ?_
    clear ha
    unfold F_trans_Put_j6 at hF
    refine KC.cond rfl (fun hc => ?_) (fun hc => ?_)
    ·rw [if_pos hc] at hF
     refine KC.region ?_
     refine va rfl rfl ?_
     refine RL.nil ?_
     refine KQ.then_k ?_
     exact fun a ha => ⟨65535, ha.less (less_cons rfl (less_cons rfl (less_cons rfl less_nil))), hM, hF⟩
    rw [if_neg (ne_true hc)] at hF
    refine KC.skip ?_
    refine KQ.then_k ?_
    exact fun a ha => ⟨y238, ha.less (less_cons rfl (less_cons rfl (less_cons rfl less_nil))), hM, hF⟩
   rintro a w251 ⟨nv250, ha, hM, hF⟩
   refine KC.app ha ?_
   clear ha
   unfold F_trans_Put_j5 at hF
   refine sr fun Q252 hQ252 => ?_
   refine RL.val (O.fldA fl62_1 (by decide) rfl) rfl ?_
   refine RL.val (O.load sc3 rfl (Cs.adds [1] ((hM.bx (i := 0) rfl)) rfl)) rfl ?_
   refine vm rfl rfl ?_
   refine RL.val (O.conv un22 Try.underlying76 rfl) rfl ?_
   refine obindE hF fun y253 hx254 hF => ?_
   refine RL.call Try.func36 bd36 rfl rfl (c_bits_Writer_Set _ _ _ y225.2 _ _ (hM.lent [2, 1] rfl (by decide)) 6 (IntKind.u64.wrap nv250) 2 _ hx254) fun v w255 hv => ?_
   obtain ⟨A257, c258, rfl, hN256⟩ := hv
   replace hM := hM.callL [2, 1] [0] rfl rfl (by decide) rfl hN256
   refine nt hQ252 ?_
   clear hQ252 Q252
   refine sr fun Q260 hQ260 => ?_
   refine obindE hF fun y261 hx262 hF => ?_
   refine RL.call Try.func35 bd35 rfl rfl (c_bits_Writer_Bytes _ _ _ y253.2 _ _ (hM.lent [1, 2] rfl (by decide)) _ hx262) fun v w263 hv => ?_
   obtain ⟨A265, c266, A268, c269, rfl, hN264⟩ := hv
   replace hM := hM.callL [1, 2] [0] rfl rfl (by decide) rfl hN264
   refine va rfl rfl ?_
   refine va rfl rfl ?_
   refine nt hQ260 ?_
   clear hQ260 Q260
   refine KC.ret ?_
   have hE := Option.some.inj hF
   clear hF
   subst hE
   replace hM := hM.pick [3] rfl (by decide)
   refine KQ.rets Try.results11 (RVs.cons (RV.tm rfl) (RVs.cons (RV.tm rfl) RVs.nil)) ?_
   exact ⟨_, rfl, A268, c269, rfl, hM⟩
  rw [if_neg hk149] at hF
  by_cases hk271 : (s1.f_Proto == 1) = true
  ·rw [if_pos hk271] at hF
   refine RD.q rfl rfl rfl rfl (fun w' hf => O.lkT ((hM.mapAt (i := 1) rfl).fut hf) Try.underlying64 Try.underlying5 rfl rfl (lk_miss hk27 (lk_miss hk149 (lk_hit hk271)))) ?_
   refine RD.p rfl rfl rfl rfl (fun w' => O.move rfl) ?_
   refine RD.p rfl rfl rfl rfl (fun w' => O.ext rfl rfl) ?_
   refine RD.p rfl rfl rfl rfl (fun w' => O.ext rfl rfl) ?_
   refine RD.meff rfl rfl (E.alloc hM ze62) rfl fun v w273 hv => ?_
   clear hM
   obtain ⟨g272, rfl, hM, hf⟩ := hv
   refine ⟨fun _ => hf, ?_⟩
   refine RD.meffs rfl rfl rfl (E.stB (j := 2) (off := 0) (vs := [vI 4, vI 2, .func (.func 46) #[] #[], .func (.func 47) #[] #[], .func (.func 48) #[] #[]]) (cs' := [vI 4, vI 2, .func (.func 46) #[] #[], .func (.func 47) #[] #[], .func (.func 48) #[] #[]]) hM rfl sz62 rfl (adds_eq [] rfl) rfl rfl (One.all rfl) rfl rfl) fun w275 hM1 => ?_
   clear hM
   have hM := hM1
   clear hM1
   refine RD.p rfl rfl rfl rfl (fun w' => O.assign rfl) ?_
   refine RD.nil ?_
   refine KQ.thn hQ20 ?_
   clear hQ20 Q20
   refine KC.seqH fun Q276 hQ276 => ?_
   refine KC.block ?_
   refine sr fun Q277 hQ277 => ?_
   refine vm rfl rfl ?_
   refine RL.val (O.not rfl) rfl ?_
   refine va rfl rfl ?_
   refine nt hQ277 ?_
   clear hQ277 Q277
   refine KC.condF rfl ?_
   refine sr fun Q278 hQ278 => ?_
   refine RL.val (O.loadN (cs := [v8 s1.f_Proto, v16 s1.f_Src, v16 s1.f_Dst, v32 s1.f_Seq, v32 s1.f_Ack, v8 s1.f_Flags, v16 s1.f_Window, v16 s1.f_Urgent, .slice A2 (s1.f_Options).length c3, v8 s1.f_Type, v8 s1.f_Code, .slice A5 (s1.f_Data).length c6]) ag26 rfl (Cs.addsN [] ((hM.bx (i := 0) rfl)) rfl)) rfl ?_
   refine obindE hF fun y279 hx280 hF => ?_
   refine RL.call Try.func13 bd13 rfl rfl (c_trans_Right _ s1 _ _ (hM.inp hr4 Off.nil) _ _ (hM.inp hr7 Off.nil) _ hx280) fun v w281 hv => ?_
   obtain ⟨rfl, hN282⟩ := hv
   replace hM := hM.call0 hN282
   refine RL.val (O.not rfl) rfl ?_
   refine va rfl rfl ?_
   refine nt hQ278 ?_
   clear hQ278 Q278
   refine KC.cond rfl (fun hc => ?_) (fun hc => ?_)
   ·rw [if_pos hc] at hF
    refine sr fun Q283 hQ283 => ?_
    refine va rfl rfl ?_
    refine va rfl rfl ?_
    refine nt hQ283 ?_
    clear hQ283 Q283
    refine KC.ret ?_
    refine KQ.blk_r ?_
    refine KQ.thr hQ276 ?_
    clear hQ276 Q276
    have hE := Option.some.inj hF
    clear hF
    subst hE
    replace hM := hM.nilrow 5 1
    replace hM := hM.pick [3] rfl (by decide)
    refine KQ.rets Try.results11 (RVs.cons (RV.tm rfl) (RVs.cons (RV.tm rfl) RVs.nil)) ?_
    exact ⟨_, rfl, none, 0, rfl, hM⟩
   rw [if_neg (ne_true hc)] at hF
   refine KC.skip ?_
   refine KQ.blk_n ?_
   refine KQ.thn hQ276 ?_
   clear hQ276 Q276
   refine KC.cut (fun a w321 => ∃ (A318 : Option Addr) (c319 : Nat) (ok316 : Bool) (ahead320 : List Int), Kn 64 [(3, .pointer (some ⟨g17, 0, none⟩)), (8, .pointer (some ⟨g272, 0, none⟩)), (9, vB ok316), (10, .slice A318 (ahead320).length c319)] a ∧ Mem w [] w321 [.box g17 26 [v8 s1.f_Proto, v16 s1.f_Src, v16 s1.f_Dst, v32 s1.f_Seq, v32 s1.f_Ack, v8 s1.f_Flags, v16 s1.f_Window, v16 s1.f_Urgent, .slice A2 (s1.f_Options).length c3, v8 s1.f_Type, v8 s1.f_Code, .slice A5 (s1.f_Data).length c6], .box g272 62 [vI 4, vI 2, .func (.func 46) #[] #[], .func (.func 47) #[] #[], .func (.func 48) #[] #[]], .row A318 c319 5 1 (ahead320).length ((ahead320).flatMap (eI .u8))] ∧ F_trans_Put_j7 s1 ok316 ahead320 = some r) ?_ ?_
   ·replace hM := hM.drewN 1
    refine KC.draw [] [4] [1, 4, 7] [0, 5, 6, 8, 9, 10, 11, 12] (.cons 0 (.cons 2 (.cons 3 (.cons 5 (.cons 6 (.alt 1 (.ofList [4, 7, 8, 9, 10, 11, 12]) 4 (.ofList [1, 7, 8, 9, 10, 11, 12]))))))) moP (by kernel_rfl) ?_
    refine RD.p rfl rfl rfl rfl (fun w' => O.fldA fl26_0 (by decide) rfl) ?_
    refine RD.q rfl rfl rfl rfl (fun w' hf => O.loadN (cs := [vI 4, vI 2, .func (.func 46) #[] #[], .func (.func 47) #[] #[], .func (.func 48) #[] #[]]) ag62 rfl (Cs.addsN [] ((hM.bx (i := 2) rfl).fut hf) rfl)) ?_
    refine RD.q rfl rfl rfl rfl (fun w' hf => O.loadN (cs := [v8 s1.f_Proto, v16 s1.f_Src, v16 s1.f_Dst, v32 s1.f_Seq, v32 s1.f_Ack, v8 s1.f_Flags, v16 s1.f_Window, v16 s1.f_Urgent, .slice A2 (s1.f_Options).length c3, v8 s1.f_Type, v8 s1.f_Code, .slice A5 (s1.f_Data).length c6]) ag26 rfl (Cs.addsN [] ((hM.bx (i := 0) rfl).fut hf) rfl)) ?_
    refine RD.p rfl rfl rfl rfl (fun w' => O.move rfl) ?_
    refine RD.p rfl rfl rfl rfl (fun w' => O.move rfl) ?_
    refine RD.alt ?_ ?_
    ·refine RD.mq rfl rfl (O.load sc5 rfl (Cs.adds [0] ((hM.bx (i := 0) rfl)) rfl)) rfl ?_
     refine RD.micall rfl rfl rfl Try.func32 bd32 rfl rfl rfl Try.ntmps32 rfl ?_
     refine sr fun Q284 hQ284 => ?_
     refine RL.eff (E.box (vs := [vI 4, vI 2, .func (.func 46) #[] #[], .func (.func 47) #[] #[], .func (.func 48) #[] #[]]) hM rfl rfl) rfl fun v w286 hv => ?_
     clear hM
     obtain ⟨g285, rfl, hM, hf⟩ := hv
     refine RL.eff (E.box (vs := [v8 s1.f_Proto, v16 s1.f_Src, v16 s1.f_Dst, v32 s1.f_Seq, v32 s1.f_Ack, v8 s1.f_Flags, v16 s1.f_Window, v16 s1.f_Urgent, .slice A2 (s1.f_Options).length c3, v8 s1.f_Type, v8 s1.f_Code, .slice A5 (s1.f_Data).length c6]) hM rfl rfl) rfl fun v w289 hv => ?_
     clear hM
     obtain ⟨g288, rfl, hM, hf⟩ := hv
     refine va rfl rfl ?_
     refine nt hQ284 ?_
     clear hQ284 Q284
     replace hM := hM.pick [0, 2, 3, 4] rfl (by decide)
     refine sr fun Q291 hQ291 => ?_
     refine RL.val (O.fldA fl62_0 (by decide) rfl) rfl ?_
     refine RL.val (O.load sc3 rfl (Cs.adds [0] ((hM.bx (i := 2) rfl)) rfl)) rfl ?_
     refine RL.val (O.fldA fl26_8 (by decide) rfl) rfl ?_
     refine RL.val (O.load sc24 rfl (Cs.adds [8] ((hM.bx (i := 3) rfl)) rfl)) rfl ?_
     refine RL.val (O.len sl24 rfl) rfl ?_
     refine RL.val (O.add rfl rfl) rfl ?_
     refine RL.val (O.fldA fl26_11 (by decide) rfl) rfl ?_
     refine RL.val (O.load sc24 rfl (Cs.adds [11] ((hM.bx (i := 3) rfl)) rfl)) rfl ?_
     refine RL.val (O.len sl24 rfl) rfl ?_
     refine RL.val (O.add rfl rfl) rfl ?_
     refine va rfl rfl ?_
     refine nt hQ291 ?_
     clear hQ291 Q291
     refine KC.ret ?_
     refine KQ.rets Try.results32 (RVs.cons (RV.tm rfl) RVs.nil) ?_
     refine ⟨.int .i64 (IntKind.i64.wrap ((IntKind.i64.wrap (4 + (s1.f_Options.length : Int))) + (s1.f_Data.length : Int))), rfl, ?_⟩
     refine obindE hF fun y292 hx293 hF => ?_
     refine RD.mcall rfl rfl trivial Try.func31 bd31 rfl rfl (c_trans_pseudo _ s1.f_Proto (IntKind.i64.wrap ((IntKind.i64.wrap (4 + (s1.f_Options.length : Int))) + (s1.f_Data.length : Int))) _ _ src8 (hM.inp hr11 Off.nil) _ _ dst12 (hM.inp hr15 Off.nil) _ hx293) fun v w294 hv => ?_
     obtain ⟨A296, c297, rfl, hN295⟩ := hv
     refine ⟨fun _ => hN295.fut, ?_⟩
     replace hM := hM.call hN295
     refine RD.p rfl rfl rfl rfl (fun w' => O.move rfl) ?_
     refine RD.p rfl rfl rfl rfl (fun w' => O.ext rfl rfl) ?_
     refine RD.p rfl rfl rfl rfl (fun w' => O.ext rfl rfl) ?_
     refine RD.p rfl rfl rfl rfl (fun w' => O.assign rfl) ?_
     refine RD.p rfl rfl rfl rfl (fun w' => O.assign rfl) ?_
     refine RD.nil ?_
     refine KQ.then_k ?_
     replace hM := hM.pick [0, 1, 4] rfl (by decide)
     exact fun a ha => ⟨A296, c297, y292.2, y292.1, ha.less (less_cons rfl (less_cons rfl (less_cons rfl (less_cons rfl less_nil)))), hM, hF⟩
    refine RD.micall rfl rfl rfl Try.func32 bd32 rfl rfl rfl Try.ntmps32 rfl ?_
    refine sr fun Q299 hQ299 => ?_
    refine RL.eff (E.box (vs := [vI 4, vI 2, .func (.func 46) #[] #[], .func (.func 47) #[] #[], .func (.func 48) #[] #[]]) hM rfl rfl) rfl fun v w301 hv => ?_
    clear hM
    obtain ⟨g300, rfl, hM, hf⟩ := hv
    refine RL.eff (E.box (vs := [v8 s1.f_Proto, v16 s1.f_Src, v16 s1.f_Dst, v32 s1.f_Seq, v32 s1.f_Ack, v8 s1.f_Flags, v16 s1.f_Window, v16 s1.f_Urgent, .slice A2 (s1.f_Options).length c3, v8 s1.f_Type, v8 s1.f_Code, .slice A5 (s1.f_Data).length c6]) hM rfl rfl) rfl fun v w304 hv => ?_
    clear hM
    obtain ⟨g303, rfl, hM, hf⟩ := hv
    refine va rfl rfl ?_
    refine nt hQ299 ?_
    clear hQ299 Q299
    replace hM := hM.pick [0, 2, 3, 4] rfl (by decide)
    refine sr fun Q306 hQ306 => ?_
    refine RL.val (O.fldA fl62_0 (by decide) rfl) rfl ?_
    refine RL.val (O.load sc3 rfl (Cs.adds [0] ((hM.bx (i := 2) rfl)) rfl)) rfl ?_
    refine RL.val (O.fldA fl26_8 (by decide) rfl) rfl ?_
    refine RL.val (O.load sc24 rfl (Cs.adds [8] ((hM.bx (i := 3) rfl)) rfl)) rfl ?_
    refine RL.val (O.len sl24 rfl) rfl ?_
    refine RL.val (O.add rfl rfl) rfl ?_
    refine RL.val (O.fldA fl26_11 (by decide) rfl) rfl ?_
    refine RL.val (O.load sc24 rfl (Cs.adds [11] ((hM.bx (i := 3) rfl)) rfl)) rfl ?_
    refine RL.val (O.len sl24 rfl) rfl ?_
    refine RL.val (O.add rfl rfl) rfl ?_
    refine va rfl rfl ?_
    refine nt hQ306 ?_
    clear hQ306 Q306
    refine KC.ret ?_
    refine KQ.rets Try.results32 (RVs.cons (RV.tm rfl) RVs.nil) ?_
    refine ⟨.int .i64 (IntKind.i64.wrap ((IntKind.i64.wrap (4 + (s1.f_Options.length : Int))) + (s1.f_Data.length : Int))), rfl, ?_⟩
    refine RD.mq rfl rfl (O.load sc5 rfl (Cs.adds [0] ((hM.bx (i := 0) rfl)) rfl)) rfl ?_
    refine obindE hF fun y307 hx308 hF => ?_
    refine RD.mcall rfl rfl trivial Try.func31 bd31 rfl rfl (c_trans_pseudo _ s1.f_Proto (IntKind.i64.wrap ((IntKind.i64.wrap (4 + (s1.f_Options.length : Int))) + (s1.f_Data.length : Int))) _ _ src8 (hM.inp hr11 Off.nil) _ _ dst12 (hM.inp hr15 Off.nil) _ hx308) fun v w309 hv => ?_
    obtain ⟨A311, c312, rfl, hN310⟩ := hv
    refine ⟨fun _ => hN310.fut, ?_⟩
    replace hM := hM.call hN310
    refine RD.p rfl rfl rfl rfl (fun w' => O.move rfl) ?_
    refine RD.p rfl rfl rfl rfl (fun w' => O.ext rfl rfl) ?_
    refine RD.p rfl rfl rfl rfl (fun w' => O.ext rfl rfl) ?_
    refine RD.p rfl rfl rfl rfl (fun w' => O.assign rfl) ?_
    refine RD.p rfl rfl rfl rfl (fun w' => O.assign rfl) ?_
    refine RD.nil ?_
    refine KQ.then_k ?_
    replace hM := hM.pick [0, 1, 4] rfl (by decide)
    exact fun a ha => ⟨A311, c312, y307.2, y307.1, ha.less (less_cons rfl (less_cons rfl (less_cons rfl (less_cons rfl less_nil)))), hM, hF⟩
   rintro a w321 ⟨A318, c319, ok316, ahead320, ha, hM, hF⟩
   refine KC.app ha ?_
   clear ha
   unfold F_trans_Put_j7 at hF
   refine KC.seqH fun Q322 hQ322 => ?_
   refine sr fun Q323 hQ323 => ?_
   refine vm rfl rfl ?_
   refine RL.val (O.not rfl) rfl ?_
   refine nt hQ323 ?_
   clear hQ323 Q323
   refine KC.cond rfl (fun hc => ?_) (fun hc => ?_)
   ·rw [if_pos hc] at hF
    refine sr fun Q324 hQ324 => ?_
    refine va rfl rfl ?_
    refine va rfl rfl ?_
    refine nt hQ324 ?_
    clear hQ324 Q324
    refine KC.ret ?_
    refine KQ.thr hQ322 ?_
    clear hQ322 Q322
    have hE := Option.some.inj hF
    clear hF
    subst hE
    replace hM := hM.nilrow 5 1
    replace hM := hM.pick [3] rfl (by decide)
    refine KQ.rets Try.results11 (RVs.cons (RV.tm rfl) (RVs.cons (RV.tm rfl) RVs.nil)) ?_
    exact ⟨_, rfl, none, 0, rfl, hM⟩
   rw [if_neg (ne_true hc)] at hF
   refine KC.skip ?_
   refine KQ.thn hQ322 ?_
   clear hQ322 Q322
   refine sr fun Q325 hQ325 => ?_
   refine RL.eff (E.alloc hM ze70) rfl fun v w327 hv => ?_
   clear hM
   obtain ⟨g326, rfl, hM, hf⟩ := hv
   refine nt hQ325 ?_
   clear hQ325 Q325
   refine sr fun Q329 hQ329 => ?_
   refine RL.val (O.fldA fl62_3 (by decide) rfl) rfl ?_
   refine RL.val (O.load sc59 rfl (Cs.adds [3] ((hM.bx (i := 1) rfl)) rfl)) rfl ?_
   refine RL.val (O.loadN (cs := [v8 s1.f_Proto, v16 s1.f_Src, v16 s1.f_Dst, v32 s1.f_Seq, v32 s1.f_Ack, v8 s1.f_Flags, v16 s1.f_Window, v16 s1.f_Urgent, .slice A2 (s1.f_Options).length c3, v8 s1.f_Type, v8 s1.f_Code, .slice A5 (s1.f_Data).length c6]) ag26 rfl (Cs.addsN [] ((hM.bx (i := 0) rfl)) rfl)) rfl ?_
   replace hM := hM.nilrow 5 1
   refine obindE hF fun y331 hx332 hF => ?_
   refine RL.callv (first := []) (captured := []) rfl Try.func47 bd47 rfl rfl (c_trans_putICMP _ _ _ (T_bits_Writer.mk ([] : List Int)) _ _ (hM.lent [3, 4] rfl (by decide)) s1 _ _ (hM.inp hr4 Off.nil) (hM.offI [3, 4] rfl hr4 (Off.nil)) _ _ (hM.inp hr7 Off.nil) (hM.offI [3, 4] rfl hr7 (Off.nil)) _ hx332) fun v w333 hv => ?_
   obtain ⟨A335, c336, rfl, hN334⟩ := hv
   replace hM := hM.callL [3, 4] [0, 1, 2] rfl rfl (by decide) rfl hN334
   refine nt hQ329 ?_
   clear hQ329 Q329
   refine sr fun Q338 hQ338 => ?_
   refine RL.val (O.fldA fl26_11 (by decide) rfl) rfl ?_
   refine RL.val (O.load sc24 rfl (Cs.adds [11] ((hM.bx (i := 0) rfl)) rfl)) rfl ?_
   refine obindE hF fun y339 hx340 hF => ?_
   refine RL.call Try.func33 bd33 rfl rfl (c_bits_Writer_Raw _ _ _ y331 _ _ (hM.lent [3, 4] rfl (by decide)) _ _ s1.f_Data (hM.inp hr7 Off.nil) (hM.offI [3, 4] rfl hr7 (Off.nil)) _ hx340) fun v w341 hv => ?_
   obtain ⟨A343, c344, rfl, hN342⟩ := hv
   replace hM := hM.callL [3, 4] [0, 1, 2] rfl rfl (by decide) rfl hN342
   refine nt hQ338 ?_
   clear hQ338 Q338
   refine sr fun Q346 hQ346 => ?_
   refine vm rfl rfl ?_
   refine obindE hF fun y347 hx348 hF => ?_
   refine RL.call Try.func35 bd35 rfl rfl (c_bits_Writer_Bytes _ _ _ y339.2 _ _ (hM.lent [3, 4] rfl (by decide)) _ hx348) fun v w349 hv => ?_
   obtain ⟨A351, c352, A354, c355, rfl, hN350⟩ := hv
   replace hM := hM.callL [3, 4] [0, 1, 2] rfl rfl (by decide) rfl hN350
   refine RL.eff (E.bslR (enc := (eI .u8)) (us := [.slice A318 (ahead320).length c319, .slice A354 (y347.1).length c355]) (xss := [ahead320, y347.1]) (Rdl.cons ((hM.rd (i := 2) rfl)) (Rdl.cons ((hM.rd (i := 5) rfl)) Rdl.nil)) hM sl88 ze24 rfl rfl rfl rfl rfl) rfl fun v w357 hv => ?_
   clear hM
   obtain ⟨A358, rfl, hM, hf, hr359⟩ := hv
   refine obindE hF fun y360 hx361 hF => ?_
   refine RL.call Try.func34 bd34 rfl rfl (c_sum_Of _ _ _ ([ahead320, y347.1]) (hr359) _ hx361) fun v w362 hv => ?_
   obtain ⟨rfl, hN363⟩ := hv
   have hr359 := hr359.fut hN363.fut
   replace hM := hM.call0 hN363
   refine va rfl rfl ?_
   refine nt hQ346 ?_
   clear hQ346 Q346
   replace hM := hM.pick [0, 1, 3, 4] rfl (by decide)
   refine KC.cut (fun a w373 => ∃ (nv372 : Int), Kn 64 [(8, .pointer (some ⟨g272, 0, none⟩)), (11, .pointer (some ⟨g326, 0, none⟩)), (12, v16 nv372)] a ∧ Mem w [] w373 [.box g272 62 [vI 4, vI 2, .func (.func 46) #[] #[], .func (.func 47) #[] #[], .func (.func 48) #[] #[]], .row A351 c352 5 1 (y347.2.f_b).length ((y347.2.f_b).flatMap (eI .u8)), .box g326 70 [.slice A351 (y347.2.f_b).length c352]] ∧ F_trans_Put_j8 y347 nv372 = some r) ?_ ?_
   ·refine KC.cut (fun a w368 => ∃ (t367 : Bool), Kn 64 [(8, .pointer (some ⟨g272, 0, none⟩)), (11, .pointer (some ⟨g326, 0, none⟩)), (12, v16 y360), (57, vB t367)] a ∧ Mem w [] w368 [.box g272 62 [vI 4, vI 2, .func (.func 46) #[] #[], .func (.func 47) #[] #[], .func (.func 48) #[] #[]], .row A351 c352 5 1 (y347.2.f_b).length ((y347.2.f_b).flatMap (eI .u8)), .box g326 70 [.slice A351 (y347.2.f_b).length c352]] ∧ F_trans_Put_j9 y347 y360 t367 = some r) ?_ ?_
    ·refine KC.region ?_
     refine vm rfl rfl ?_
     refine RL.val (O.eql rfl rfl) rfl ?_
     refine vm rfl rfl ?_
     refine RL.bcase (t := 53) rfl (fun hc => ?_) (fun hc => ?_)
     ·rw [if_pos hc] at hF
      refine RL.gval rfl rfl (O.fldA fl26_0 (by decide) rfl) rfl ?_
      refine RL.gval rfl rfl (O.load sc5 rfl (Cs.adds [0] ((hM.bx (i := 0) rfl)) rfl)) rfl ?_
      refine RL.gval rfl rfl (O.eql rfl rfl) rfl ?_
      refine RL.val (O.pickt rfl rfl) rfl ?_
      refine RL.nil ?_
      refine KQ.then_k ?_
      replace hM := hM.pick [1, 3, 2] rfl (by decide)
      exact fun a ha => ⟨(s1.f_Proto == 17), ha.less (less_cons rfl (less_cons rfl (less_cons rfl (less_cons rfl less_nil)))), hM, hF⟩
     rw [if_neg (ne_true hc)] at hF
     refine RL.brun1 4 57 false (by kernel_rfl) ?_
     refine RL.nil ?_
     refine KQ.then_k ?_
     replace hM := hM.pick [1, 3, 2] rfl (by decide)
     exact fun a ha => ⟨false, ha.less (less_cons rfl (less_cons rfl (less_cons rfl (less_cons rfl less_nil)))), hM, hF⟩
    rintro a w368 ⟨t367, ha, hM, hF⟩
    refine KC.app ha ?_
    clear ha
    unfold F_trans_Put_j9 at hF
    refine KC.cond rfl (fun hc => ?_) (fun hc => ?_)
    ·rw [if_pos hc] at hF
     refine KC.region ?_
     refine va rfl rfl ?_
     refine RL.nil ?_
     refine KQ.then_k ?_
     exact fun a ha => ⟨65535, ha.less (less_cons rfl (less_cons rfl (less_cons rfl less_nil))), hM, hF⟩
    rw [if_neg (ne_true hc)] at hF
    refine KC.skip ?_
    refine KQ.then_k ?_
    exact fun a ha => ⟨y360, ha.less (less_cons rfl (less_cons rfl (less_cons rfl less_nil))), hM, hF⟩
   rintro a w373 ⟨nv372, ha, hM, hF⟩
   refine KC.app ha ?_
   clear ha
   unfold F_trans_Put_j8 at hF
   refine sr fun Q374 hQ374 => ?_
   refine RL.val (O.fldA fl62_1 (by decide) rfl) rfl ?_
   refine RL.val (O.load sc3 rfl (Cs.adds [1] ((hM.bx (i := 0) rfl)) rfl)) rfl ?_
   refine vm rfl rfl ?_
   refine RL.val (O.conv un22 Try.underlying76 rfl) rfl ?_
   refine obindE hF fun y375 hx376 hF => ?_
   refine RL.call Try.func36 bd36 rfl rfl (c_bits_Writer_Set _ _ _ y347.2 _ _ (hM.lent [2, 1] rfl (by decide)) 2 (IntKind.u64.wrap nv372) 2 _ hx376) fun v w377 hv => ?_
   obtain ⟨A379, c380, rfl, hN378⟩ := hv
   replace hM := hM.callL [2, 1] [0] rfl rfl (by decide) rfl hN378
   refine nt hQ374 ?_
   clear hQ374 Q374
   refine sr fun Q382 hQ382 => ?_
   refine obindE hF fun y383 hx384 hF => ?_
   refine RL.call Try.func35 bd35 rfl rfl (c_bits_Writer_Bytes _ _ _ y375.2 _ _ (hM.lent [1, 2] rfl (by decide)) _ hx384) fun v w385 hv => ?_
   obtain ⟨A387, c388, A390, c391, rfl, hN386⟩ := hv
   replace hM := hM.callL [1, 2] [0] rfl rfl (by decide) rfl hN386
   refine va rfl rfl ?_
   refine va rfl rfl ?_
   refine nt hQ382 ?_
   clear hQ382 Q382
   refine KC.ret ?_
   have hE := Option.some.inj hF
   clear hF
   subst hE
   replace hM := hM.pick [3] rfl (by decide)
   refine KQ.rets Try.results11 (RVs.cons (RV.tm rfl) (RVs.cons (RV.tm rfl) RVs.nil)) ?_
   exact ⟨_, rfl, A390, c391, rfl, hM⟩
  rw [if_neg hk271] at hF
  by_cases hk393 : (s1.f_Proto == 58) = true
  ·rw [if_pos hk393] at hF
   refine RD.q rfl rfl rfl rfl (fun w' hf => O.lkT ((hM.mapAt (i := 1) rfl).fut hf) Try.underlying64 Try.underlying5 rfl rfl (lk_miss hk27 (lk_miss hk149 (lk_miss hk271 (lk_hit hk393))))) ?_
   refine RD.p rfl rfl rfl rfl (fun w' => O.move rfl) ?_
   refine RD.p rfl rfl rfl rfl (fun w' => O.ext rfl rfl) ?_
   refine RD.p rfl rfl rfl rfl (fun w' => O.ext rfl rfl) ?_
   refine RD.meff rfl rfl (E.alloc hM ze62) rfl fun v w395 hv => ?_
   clear hM
   obtain ⟨g394, rfl, hM, hf⟩ := hv
   refine ⟨fun _ => hf, ?_⟩
   refine RD.meffs rfl rfl rfl (E.stB (j := 2) (off := 0) (vs := [vI 4, vI 2, .func (.func 46) #[] #[], .func (.func 47) #[] #[], .func (.func 48) #[] #[]]) (cs' := [vI 4, vI 2, .func (.func 46) #[] #[], .func (.func 47) #[] #[], .func (.func 48) #[] #[]]) hM rfl sz62 rfl (adds_eq [] rfl) rfl rfl (One.all rfl) rfl rfl) fun w397 hM1 => ?_
   clear hM
   have hM := hM1
   clear hM1
   refine RD.p rfl rfl rfl rfl (fun w' => O.assign rfl) ?_
   refine RD.nil ?_
   refine KQ.thn hQ20 ?_
   clear hQ20 Q20
   refine KC.seqH fun Q398 hQ398 => ?_
   refine KC.block ?_
   refine sr fun Q399 hQ399 => ?_
   refine vm rfl rfl ?_
   refine RL.val (O.not rfl) rfl ?_
   refine va rfl rfl ?_
   refine nt hQ399 ?_
   clear hQ399 Q399
   refine KC.condF rfl ?_
   refine sr fun Q400 hQ400 => ?_
   refine RL.val (O.loadN (cs := [v8 s1.f_Proto, v16 s1.f_Src, v16 s1.f_Dst, v32 s1.f_Seq, v32 s1.f_Ack, v8 s1.f_Flags, v16 s1.f_Window, v16 s1.f_Urgent, .slice A2 (s1.f_Options).length c3, v8 s1.f_Type, v8 s1.f_Code, .slice A5 (s1.f_Data).length c6]) ag26 rfl (Cs.addsN [] ((hM.bx (i := 0) rfl)) rfl)) rfl ?_
   refine obindE hF fun y401 hx402 hF => ?_
   refine RL.call Try.func13 bd13 rfl rfl (c_trans_Right _ s1 _ _ (hM.inp hr4 Off.nil) _ _ (hM.inp hr7 Off.nil) _ hx402) fun v w403 hv => ?_
   obtain ⟨rfl, hN404⟩ := hv
   replace hM := hM.call0 hN404
   refine RL.val (O.not rfl) rfl ?_
   refine va rfl rfl ?_
   refine nt hQ400 ?_
   clear hQ400 Q400
   refine KC.cond rfl (fun hc => ?_) (fun hc => ?_)
   ·rw [if_pos hc] at hF
    refine sr fun Q405 hQ405 => ?_
    refine va rfl rfl ?_
    refine va rfl rfl ?_
    refine nt hQ405 ?_
    clear hQ405 Q405
    refine KC.ret ?_
    refine KQ.blk_r ?_
    refine KQ.thr hQ398 ?_
    clear hQ398 Q398
    have hE := Option.some.inj hF
    clear hF
    subst hE
    replace hM := hM.nilrow 5 1
    replace hM := hM.pick [3] rfl (by decide)
    refine KQ.rets Try.results11 (RVs.cons (RV.tm rfl) (RVs.cons (RV.tm rfl) RVs.nil)) ?_
    exact ⟨_, rfl, none, 0, rfl, hM⟩
   rw [if_neg (ne_true hc)] at hF
   refine KC.skip ?_
   refine KQ.blk_n ?_
   refine KQ.thn hQ398 ?_
   clear hQ398 Q398
   refine KC.cut (fun a w443 => ∃ (A440 : Option Addr) (c441 : Nat) (ok438 : Bool) (ahead442 : List Int), Kn 64 [(3, .pointer (some ⟨g17, 0, none⟩)), (8, .pointer (some ⟨g394, 0, none⟩)), (9, vB ok438), (10, .slice A440 (ahead442).length c441)] a ∧ Mem w [] w443 [.box g17 26 [v8 s1.f_Proto, v16 s1.f_Src, v16 s1.f_Dst, v32 s1.f_Seq, v32 s1.f_Ack, v8 s1.f_Flags, v16 s1.f_Window, v16 s1.f_Urgent, .slice A2 (s1.f_Options).length c3, v8 s1.f_Type, v8 s1.f_Code, .slice A5 (s1.f_Data).length c6], .box g394 62 [vI 4, vI 2, .func (.func 46) #[] #[], .func (.func 47) #[] #[], .func (.func 48) #[] #[]], .row A440 c441 5 1 (ahead442).length ((ahead442).flatMap (eI .u8))] ∧ F_trans_Put_j10 s1 ok438 ahead442 = some r) ?_ ?_
   ·replace hM := hM.drewN 1
    refine KC.draw [] [4] [1, 4, 7] [0, 5, 6, 8, 9, 10, 11, 12] (.cons 0 (.cons 2 (.cons 3 (.cons 5 (.cons 6 (.alt 1 (.ofList [4, 7, 8, 9, 10, 11, 12]) 4 (.ofList [1, 7, 8, 9, 10, 11, 12]))))))) moP (by kernel_rfl) ?_
    refine RD.p rfl rfl rfl rfl (fun w' => O.fldA fl26_0 (by decide) rfl) ?_
    refine RD.q rfl rfl rfl rfl (fun w' hf => O.loadN (cs := [vI 4, vI 2, .func (.func 46) #[] #[], .func (.func 47) #[] #[], .func (.func 48) #[] #[]]) ag62 rfl (Cs.addsN [] ((hM.bx (i := 2) rfl).fut hf) rfl)) ?_
    refine RD.q rfl rfl rfl rfl (fun w' hf => O.loadN (cs := [v8 s1.f_Proto, v16 s1.f_Src, v16 s1.f_Dst, v32 s1.f_Seq, v32 s1.f_Ack, v8 s1.f_Flags, v16 s1.f_Window, v16 s1.f_Urgent, .slice A2 (s1.f_Options).length c3, v8 s1.f_Type, v8 s1.f_Code, .slice A5 (s1.f_Data).length c6]) ag26 rfl (Cs.addsN [] ((hM.bx (i := 0) rfl).fut hf) rfl)) ?_
    refine RD.p rfl rfl rfl rfl (fun w' => O.move rfl) ?_
    refine RD.p rfl rfl rfl rfl (fun w' => O.move rfl) ?_
    refine RD.alt ?_ ?_
    ·refine RD.mq rfl rfl (O.load sc5 rfl (Cs.adds [0] ((hM.bx (i := 0) rfl)) rfl)) rfl ?_
     refine RD.micall rfl rfl rfl Try.func32 bd32 rfl rfl rfl Try.ntmps32 rfl ?_
     refine sr fun Q406 hQ406 => ?_
     refine RL.eff (E.box (vs := [vI 4, vI 2, .func (.func 46) #[] #[], .func (.func 47) #[] #[], .func (.func 48) #[] #[]]) hM rfl rfl) rfl fun v w408 hv => ?_
     clear hM
     obtain ⟨g407, rfl, hM, hf⟩ := hv
     refine RL.eff (E.box (vs := [v8 s1.f_Proto, v16 s1.f_Src, v16 s1.f_Dst, v32 s1.f_Seq, v32 s1.f_Ack, v8 s1.f_Flags, v16 s1.f_Window, v16 s1.f_Urgent, .slice A2 (s1.f_Options).length c3, v8 s1.f_Type, v8 s1.f_Code, .slice A5 (s1.f_Data).length c6]) hM rfl rfl) rfl fun v w411 hv => ?_
     clear hM
     obtain ⟨g410, rfl, hM, hf⟩ := hv
     refine va rfl rfl ?_
     refine nt hQ406 ?_
     clear hQ406 Q406
     replace hM := hM.pick [0, 2, 3, 4] rfl (by decide)
     refine sr fun Q413 hQ413 => ?_
     refine RL.val (O.fldA fl62_0 (by decide) rfl) rfl ?_
     refine RL.val (O.load sc3 rfl (Cs.adds [0] ((hM.bx (i := 2) rfl)) rfl)) rfl ?_
     refine RL.val (O.fldA fl26_8 (by decide) rfl) rfl ?_
     refine RL.val (O.load sc24 rfl (Cs.adds [8] ((hM.bx (i := 3) rfl)) rfl)) rfl ?_
     refine RL.val (O.len sl24 rfl) rfl ?_
     refine RL.val (O.add rfl rfl) rfl ?_
     refine RL.val (O.fldA fl26_11 (by decide) rfl) rfl ?_
     refine RL.val (O.load sc24 rfl (Cs.adds [11] ((hM.bx (i := 3) rfl)) rfl)) rfl ?_
     refine RL.val (O.len sl24 rfl) rfl ?_
     refine RL.val (O.add rfl rfl) rfl ?_
     refine va rfl rfl ?_
     refine nt hQ413 ?_
     clear hQ413 Q413
     refine KC.ret ?_
     refine KQ.rets Try.results32 (RVs.cons (RV.tm rfl) RVs.nil) ?_
     refine ⟨.int .i64 (IntKind.i64.wrap ((IntKind.i64.wrap (4 + (s1.f_Options.length : Int))) + (s1.f_Data.length : Int))), rfl, ?_⟩
     refine obindE hF fun y414 hx415 hF => ?_
     refine RD.mcall rfl rfl trivial Try.func31 bd31 rfl rfl (c_trans_pseudo _ s1.f_Proto (IntKind.i64.wrap ((IntKind.i64.wrap (4 + (s1.f_Options.length : Int))) + (s1.f_Data.length : Int))) _ _ src8 (hM.inp hr11 Off.nil) _ _ dst12 (hM.inp hr15 Off.nil) _ hx415) fun v w416 hv => ?_
     obtain ⟨A418, c419, rfl, hN417⟩ := hv
     refine ⟨fun _ => hN417.fut, ?_⟩
     replace hM := hM.call hN417
     refine RD.p rfl rfl rfl rfl (fun w' => O.move rfl) ?_
     refine RD.p rfl rfl rfl rfl (fun w' => O.ext rfl rfl) ?_
     refine RD.p rfl rfl rfl rfl (fun w' => O.ext rfl rfl) ?_
     refine RD.p rfl rfl rfl rfl (fun w' => O.assign rfl) ?_
     refine RD.p rfl rfl rfl rfl (fun w' => O.assign rfl) ?_
     refine RD.nil ?_
     refine KQ.then_k ?_
     replace hM := hM.pick [0, 1, 4] rfl (by decide)
     exact fun a ha => ⟨A418, c419, y414.2, y414.1, ha.less (less_cons rfl (less_cons rfl (less_cons rfl (less_cons rfl less_nil)))), hM, hF⟩
    refine RD.micall rfl rfl rfl Try.func32 bd32 rfl rfl rfl Try.ntmps32 rfl ?_
    refine sr fun Q421 hQ421 => ?_
    refine RL.eff (E.box (vs := [vI 4, vI 2, .func (.func 46) #[] #[], .func (.func 47) #[] #[], .func (.func 48) #[] #[]]) hM rfl rfl) rfl fun v w423 hv => ?_
    clear hM
    obtain ⟨g422, rfl, hM, hf⟩ := hv
    refine RL.eff (E.box (vs := [v8 s1.f_Proto, v16 s1.f_Src, v16 s1.f_Dst, v32 s1.f_Seq, v32 s1.f_Ack, v8 s1.f_Flags, v16 s1.f_Window, v16 s1.f_Urgent, .slice A2 (s1.f_Options).length c3, v8 s1.f_Type, v8 s1.f_Code, .slice A5 (s1.f_Data).length c6]) hM rfl rfl) rfl fun v w426 hv => ?_
    clear hM
    obtain ⟨g425, rfl, hM, hf⟩ := hv
    refine va rfl rfl ?_
    refine nt hQ421 ?_
    clear hQ421 Q421
    replace hM := hM.pick [0, 2, 3, 4] rfl (by decide)
    refine sr fun Q428 hQ428 => ?_
    refine RL.val (O.fldA fl62_0 (by decide) rfl) rfl ?_
    refine RL.val (O.load sc3 rfl (Cs.adds [0] ((hM.bx (i := 2) rfl)) rfl)) rfl ?_
    refine RL.val (O.fldA fl26_8 (by decide) rfl) rfl ?_
    refine RL.val (O.load sc24 rfl (Cs.adds [8] ((hM.bx (i := 3) rfl)) rfl)) rfl ?_
    refine RL.val (O.len sl24 rfl) rfl ?_
    refine RL.val (O.add rfl rfl) rfl ?_
    refine RL.val (O.fldA fl26_11 (by decide) rfl) rfl ?_
    refine RL.val (O.load sc24 rfl (Cs.adds [11] ((hM.bx (i := 3) rfl)) rfl)) rfl ?_
    refine RL.val (O.len sl24 rfl) rfl ?_
    refine RL.val (O.add rfl rfl) rfl ?_
    refine va rfl rfl ?_
    refine nt hQ428 ?_
    clear hQ428 Q428
    refine KC.ret ?_
    refine KQ.rets Try.results32 (RVs.cons (RV.tm rfl) RVs.nil) ?_
    refine ⟨.int .i64 (IntKind.i64.wrap ((IntKind.i64.wrap (4 + (s1.f_Options.length : Int))) + (s1.f_Data.length : Int))), rfl, ?_⟩
    refine RD.mq rfl rfl (O.load sc5 rfl (Cs.adds [0] ((hM.bx (i := 0) rfl)) rfl)) rfl ?_
    refine obindE hF fun y429 hx430 hF => ?_
    refine RD.mcall rfl rfl trivial Try.func31 bd31 rfl rfl (c_trans_pseudo _ s1.f_Proto (IntKind.i64.wrap ((IntKind.i64.wrap (4 + (s1.f_Options.length : Int))) + (s1.f_Data.length : Int))) _ _ src8 (hM.inp hr11 Off.nil) _ _ dst12 (hM.inp hr15 Off.nil) _ hx430) fun v w431 hv => ?_
    obtain ⟨A433, c434, rfl, hN432⟩ := hv
    refine ⟨fun _ => hN432.fut, ?_⟩
    replace hM := hM.call hN432
    refine RD.p rfl rfl rfl rfl (fun w' => O.move rfl) ?_
    refine RD.p rfl rfl rfl rfl (fun w' => O.ext rfl rfl) ?_
    refine RD.p rfl rfl rfl rfl (fun w' => O.ext rfl rfl) ?_
    refine RD.p rfl rfl rfl rfl (fun w' => O.assign rfl) ?_
    refine RD.p rfl rfl rfl rfl (fun w' => O.assign rfl) ?_
    refine RD.nil ?_
    refine KQ.then_k ?_
    replace hM := hM.pick [0, 1, 4] rfl (by decide)
    exact fun a ha => ⟨A433, c434, y429.2, y429.1, ha.less (less_cons rfl (less_cons rfl (less_cons rfl (less_cons rfl less_nil)))), hM, hF⟩
   rintro a w443 ⟨A440, c441, ok438, ahead442, ha, hM, hF⟩
   refine KC.app ha ?_
   clear ha
   unfold F_trans_Put_j10 at hF
   refine KC.seqH fun Q444 hQ444 => ?_
   refine sr fun Q445 hQ445 => ?_
   refine vm rfl rfl ?_
   refine RL.val (O.not rfl) rfl ?_
   refine nt hQ445 ?_
   clear hQ445 Q445
   refine KC.cond rfl (fun hc => ?_) (fun hc => ?_)
   ·rw [if_pos hc] at hF
    refine sr fun Q446 hQ446 => ?_
    refine va rfl rfl ?_
    refine va rfl rfl ?_
    refine nt hQ446 ?_
    clear hQ446 Q446
    refine KC.ret ?_
    refine KQ.thr hQ444 ?_
    clear hQ444 Q444
    have hE := Option.some.inj hF
    clear hF
    subst hE
    replace hM := hM.nilrow 5 1
    replace hM := hM.pick [3] rfl (by decide)
    refine KQ.rets Try.results11 (RVs.cons (RV.tm rfl) (RVs.cons (RV.tm rfl) RVs.nil)) ?_
    exact ⟨_, rfl, none, 0, rfl, hM⟩
   rw [if_neg (ne_true hc)] at hF
   refine KC.skip ?_
   refine KQ.thn hQ444 ?_
   clear hQ444 Q444
   refine sr fun Q447 hQ447 => ?_
   refine RL.eff (E.alloc hM ze70) rfl fun v w449 hv => ?_
   clear hM
   obtain ⟨g448, rfl, hM, hf⟩ := hv
   refine nt hQ447 ?_
   clear hQ447 Q447
   refine sr fun Q451 hQ451 => ?_
   refine RL.val (O.fldA fl62_3 (by decide) rfl) rfl ?_
   refine RL.val (O.load sc59 rfl (Cs.adds [3] ((hM.bx (i := 1) rfl)) rfl)) rfl ?_
   refine RL.val (O.loadN (cs := [v8 s1.f_Proto, v16 s1.f_Src, v16 s1.f_Dst, v32 s1.f_Seq, v32 s1.f_Ack, v8 s1.f_Flags, v16 s1.f_Window, v16 s1.f_Urgent, .slice A2 (s1.f_Options).length c3, v8 s1.f_Type, v8 s1.f_Code, .slice A5 (s1.f_Data).length c6]) ag26 rfl (Cs.addsN [] ((hM.bx (i := 0) rfl)) rfl)) rfl ?_
   replace hM := hM.nilrow 5 1
   refine obindE hF fun y453 hx454 hF => ?_
   refine RL.callv (first := []) (captured := []) rfl Try.func47 bd47 rfl rfl (c_trans_putICMP _ _ _ (T_bits_Writer.mk ([] : List Int)) _ _ (hM.lent [3, 4] rfl (by decide)) s1 _ _ (hM.inp hr4 Off.nil) (hM.offI [3, 4] rfl hr4 (Off.nil)) _ _ (hM.inp hr7 Off.nil) (hM.offI [3, 4] rfl hr7 (Off.nil)) _ hx454) fun v w455 hv => ?_
   obtain ⟨A457, c458, rfl, hN456⟩ := hv
   replace hM := hM.callL [3, 4] [0, 1, 2] rfl rfl (by decide) rfl hN456
   refine nt hQ451 ?_
   clear hQ451 Q451
   refine sr fun Q460 hQ460 => ?_
   refine RL.val (O.fldA fl26_11 (by decide) rfl) rfl ?_
   refine RL.val (O.load sc24 rfl (Cs.adds [11] ((hM.bx (i := 0) rfl)) rfl)) rfl ?_
   refine obindE hF fun y461 hx462 hF => ?_
   refine RL.call Try.func33 bd33 rfl rfl (c_bits_Writer_Raw _ _ _ y453 _ _ (hM.lent [3, 4] rfl (by decide)) _ _ s1.f_Data (hM.inp hr7 Off.nil) (hM.offI [3, 4] rfl hr7 (Off.nil)) _ hx462) fun v w463 hv => ?_
   obtain ⟨A465, c466, rfl, hN464⟩ := hv
   replace hM := hM.callL [3, 4] [0, 1, 2] rfl rfl (by decide) rfl hN464
   refine nt hQ460 ?_
   clear hQ460 Q460
   refine sr fun Q468 hQ468 => ?_
   refine vm rfl rfl ?_
   refine obindE hF fun y469 hx470 hF => ?_
   refine RL.call Try.func35 bd35 rfl rfl (c_bits_Writer_Bytes _ _ _ y461.2 _ _ (hM.lent [3, 4] rfl (by decide)) _ hx470) fun v w471 hv => ?_
   obtain ⟨A473, c474, A476, c477, rfl, hN472⟩ := hv
   replace hM := hM.callL [3, 4] [0, 1, 2] rfl rfl (by decide) rfl hN472
   refine RL.eff (E.bslR (enc := (eI .u8)) (us := [.slice A440 (ahead442).length c441, .slice A476 (y469.1).length c477]) (xss := [ahead442, y469.1]) (Rdl.cons ((hM.rd (i := 2) rfl)) (Rdl.cons ((hM.rd (i := 5) rfl)) Rdl.nil)) hM sl88 ze24 rfl rfl rfl rfl rfl) rfl fun v w479 hv => ?_
   clear hM
   obtain ⟨A480, rfl, hM, hf, hr481⟩ := hv
   refine obindE hF fun y482 hx483 hF => ?_
   refine RL.call Try.func34 bd34 rfl rfl (c_sum_Of _ _ _ ([ahead442, y469.1]) (hr481) _ hx483) fun v w484 hv => ?_
   obtain ⟨rfl, hN485⟩ := hv
   have hr481 := hr481.fut hN485.fut
   replace hM := hM.call0 hN485
   refine va rfl rfl ?_
   refine nt hQ468 ?_
   clear hQ468 Q468
   replace hM := hM.pick [0, 1, 3, 4] rfl (by decide)
   refine KC.cut (fun a w495 => ∃ (nv494 : Int), Kn 64 [(8, .pointer (some ⟨g394, 0, none⟩)), (11, .pointer (some ⟨g448, 0, none⟩)), (12, v16 nv494)] a ∧ Mem w [] w495 [.box g394 62 [vI 4, vI 2, .func (.func 46) #[] #[], .func (.func 47) #[] #[], .func (.func 48) #[] #[]], .row A473 c474 5 1 (y469.2.f_b).length ((y469.2.f_b).flatMap (eI .u8)), .box g448 70 [.slice A473 (y469.2.f_b).length c474]] ∧ F_trans_Put_j11 y469 nv494 = some r) ?_ ?_
   ·refine KC.cut (fun a w490 => ∃ (t489 : Bool), Kn 64 [(8, .pointer (some ⟨g394, 0, none⟩)), (11, .pointer (some ⟨g448, 0, none⟩)), (12, v16 y482), (57, vB t489)] a ∧ Mem w [] w490 [.box g394 62 [vI 4, vI 2, .func (.func 46) #[] #[], .func (.func 47) #[] #[], .func (.func 48) #[] #[]], .row A473 c474 5 1 (y469.2.f_b).length ((y469.2.f_b).flatMap (eI .u8)), .box g448 70 [.slice A473 (y469.2.f_b).length c474]] ∧ F_trans_Put_j12 y469 y482 t489 = some r) ?_ ?_
    ·refine KC.region ?_
     refine vm rfl rfl ?_
     refine RL.val (O.eql rfl rfl) rfl ?_
     refine vm rfl rfl ?_
     refine RL.bcase (t := 53) rfl (fun hc => ?_) (fun hc => ?_)
     ·rw [if_pos hc] at hF
      refine RL.gval rfl rfl (O.fldA fl26_0 (by decide) rfl) rfl ?_
      refine RL.gval rfl rfl (O.load sc5 rfl (Cs.adds [0] ((hM.bx (i := 0) rfl)) rfl)) rfl ?_
      refine RL.gval rfl rfl (O.eql rfl rfl) rfl ?_
      refine RL.val (O.pickt rfl rfl) rfl ?_
      refine RL.nil ?_
      refine KQ.then_k ?_
      replace hM := hM.pick [1, 3, 2] rfl (by decide)
      exact fun a ha => ⟨(s1.f_Proto == 17), ha.less (less_cons rfl (less_cons rfl (less_cons rfl (less_cons rfl less_nil)))), hM, hF⟩
     rw [if_neg (ne_true hc)] at hF
     refine RL.brun1 4 57 false (by kernel_rfl) ?_
     refine RL.nil ?_
     refine KQ.then_k ?_
     replace hM := hM.pick [1, 3, 2] rfl (by decide)
     exact fun a ha => ⟨false, ha.less (less_cons rfl (less_cons rfl (less_cons rfl (less_cons rfl less_nil)))), hM, hF⟩
    rintro a w490 ⟨t489, ha, hM, hF⟩
    refine KC.app ha ?_
    clear ha
    unfold F_trans_Put_j12 at hF
    refine KC.cond rfl (fun hc => ?_) (fun hc => ?_)
    ·rw [if_pos hc] at hF
     refine KC.region ?_
     refine va rfl rfl ?_
     refine RL.nil ?_
     refine KQ.then_k ?_
     exact fun a ha => ⟨65535, ha.less (less_cons rfl (less_cons rfl (less_cons rfl less_nil))), hM, hF⟩
    rw [if_neg (ne_true hc)] at hF
    refine KC.skip ?_
    refine KQ.then_k ?_
    exact fun a ha => ⟨y482, ha.less (less_cons rfl (less_cons rfl (less_cons rfl less_nil))), hM, hF⟩
   rintro a w495 ⟨nv494, ha, hM, hF⟩
   refine KC.app ha ?_
   clear ha
   unfold F_trans_Put_j11 at hF
   refine sr fun Q496 hQ496 => ?_
   refine RL.val (O.fldA fl62_1 (by decide) rfl) rfl ?_
   refine RL.val (O.load sc3 rfl (Cs.adds [1] ((hM.bx (i := 0) rfl)) rfl)) rfl ?_
   refine vm rfl rfl ?_
   refine RL.val (O.conv un22 Try.underlying76 rfl) rfl ?_
   refine obindE hF fun y497 hx498 hF => ?_
   refine RL.call Try.func36 bd36 rfl rfl (c_bits_Writer_Set _ _ _ y469.2 _ _ (hM.lent [2, 1] rfl (by decide)) 2 (IntKind.u64.wrap nv494) 2 _ hx498) fun v w499 hv => ?_
   obtain ⟨A501, c502, rfl, hN500⟩ := hv
   replace hM := hM.callL [2, 1] [0] rfl rfl (by decide) rfl hN500
   refine nt hQ496 ?_
   clear hQ496 Q496
   refine sr fun Q504 hQ504 => ?_
   refine obindE hF fun y505 hx506 hF => ?_
   refine RL.call Try.func35 bd35 rfl rfl (c_bits_Writer_Bytes _ _ _ y497.2 _ _ (hM.lent [1, 2] rfl (by decide)) _ hx506) fun v w507 hv => ?_
   obtain ⟨A509, c510, A512, c513, rfl, hN508⟩ := hv
   replace hM := hM.callL [1, 2] [0] rfl rfl (by decide) rfl hN508
   refine va rfl rfl ?_
   refine va rfl rfl ?_
   refine nt hQ504 ?_
   clear hQ504 Q504
   refine KC.ret ?_
   have hE := Option.some.inj hF
   clear hF
   subst hE
   replace hM := hM.pick [3] rfl (by decide)
   refine KQ.rets Try.results11 (RVs.cons (RV.tm rfl) (RVs.cons (RV.tm rfl) RVs.nil)) ?_
   exact ⟨_, rfl, A512, c513, rfl, hM⟩
  rw [if_neg hk393] at hF
  refine RD.q rfl rfl rfl rfl (fun w' hf => O.lkF (cs := [vI 0, vI 0, Value.nilFunc, Value.nilFunc, Value.nilFunc]) ((hM.mapAt (i := 1) rfl).fut hf) Try.underlying64 Try.underlying5 (by kernel_rfl) rfl rfl (lk_miss hk27 (lk_miss hk149 (lk_miss hk271 (lk_miss hk393 (lk_nil)))))) ?_
  refine RD.p rfl rfl rfl rfl (fun w' => O.move rfl) ?_
  refine RD.p rfl rfl rfl rfl (fun w' => O.ext rfl rfl) ?_
  refine RD.p rfl rfl rfl rfl (fun w' => O.ext rfl rfl) ?_
  refine RD.meff rfl rfl (E.alloc hM ze62) rfl fun v w517 hv => ?_
  clear hM
  obtain ⟨g516, rfl, hM, hf⟩ := hv
  refine ⟨fun _ => hf, ?_⟩
  refine RD.meffs rfl rfl rfl (E.stB (j := 2) (off := 0) (vs := [vI 0, vI 0, Value.nilFunc, Value.nilFunc, Value.nilFunc]) (cs' := [vI 0, vI 0, Value.nilFunc, Value.nilFunc, Value.nilFunc]) hM rfl sz62 rfl (adds_eq [] rfl) rfl rfl (One.all rfl) rfl rfl) fun w519 hM1 => ?_
  clear hM
  have hM := hM1
  clear hM1
  refine RD.p rfl rfl rfl rfl (fun w' => O.assign rfl) ?_
  refine RD.nil ?_
  refine KQ.thn hQ20 ?_
  clear hQ20 Q20
  refine KC.seqH fun Q520 hQ520 => ?_
  refine KC.block ?_
  refine sr fun Q521 hQ521 => ?_
  refine vm rfl rfl ?_
  refine RL.val (O.not rfl) rfl ?_
  refine va rfl rfl ?_
  refine nt hQ521 ?_
  clear hQ521 Q521
  refine KC.condT rfl ?_
  refine sr fun Q522 hQ522 => ?_
  refine va rfl rfl ?_
  refine va rfl rfl ?_
  refine nt hQ522 ?_
  clear hQ522 Q522
  refine KC.ret ?_
  refine KQ.blk_r ?_
  refine KQ.thr hQ520 ?_
  clear hQ520 Q520
  have hE := Option.some.inj hF
  clear hF
  subst hE
  replace hM := hM.nilrow 5 1
  replace hM := hM.pick [3] rfl (by decide)
  refine KQ.rets Try.results11 (RVs.cons (RV.tm rfl) (RVs.cons (RV.tm rfl) RVs.nil)) ?_
  exact ⟨_, rfl, none, 0, rfl, hM⟩
 refine RD.meff rfl rfl (E.alloc hM ze62) rfl fun v w524 hv => ?_
 clear hM
 obtain ⟨g523, rfl, hM, hf⟩ := hv
 refine ⟨fun _ => hf, ?_⟩
 refine obindE hF fun y526 hx527 hF => ?_
 refine RD.mcall rfl rfl trivial Try.func30 bd30 rfl rfl (c_trans_protocols _ _ hx527) fun v w528 hv => ?_
 obtain ⟨g530, rfl, hN529⟩ := hv
 refine ⟨fun _ => hN529.fut, ?_⟩
 replace hM := hM.call hN529
 by_cases hk532 : (s1.f_Proto == 6) = true
 ·rw [if_pos hk532] at hF
  refine RD.q rfl rfl rfl rfl (fun w' hf => O.lkT ((hM.mapAt (i := 2) rfl).fut hf) Try.underlying64 Try.underlying5 rfl rfl (lk_hit hk532)) ?_
  refine RD.p rfl rfl rfl rfl (fun w' => O.move rfl) ?_
  refine RD.p rfl rfl rfl rfl (fun w' => O.ext rfl rfl) ?_
  refine RD.p rfl rfl rfl rfl (fun w' => O.ext rfl rfl) ?_
  refine RD.meffs rfl rfl rfl (E.stB (j := 1) (off := 0) (vs := [vI 20, vI 16, .func (.func 49) #[] #[], .func (.func 50) #[] #[], .func (.func 51) #[] #[]]) (cs' := [vI 20, vI 16, .func (.func 49) #[] #[], .func (.func 50) #[] #[], .func (.func 51) #[] #[]]) hM rfl sz62 rfl (adds_eq [] rfl) rfl rfl (One.all rfl) rfl rfl) fun w533 hM1 => ?_
  clear hM
  have hM := hM1
  clear hM1
  refine RD.p rfl rfl rfl rfl (fun w' => O.assign rfl) ?_
  refine RD.nil ?_
  refine KQ.thn hQ20 ?_
  clear hQ20 Q20
  refine KC.seqH fun Q534 hQ534 => ?_
  refine KC.block ?_
  refine sr fun Q535 hQ535 => ?_
  refine vm rfl rfl ?_
  refine RL.val (O.not rfl) rfl ?_
  refine va rfl rfl ?_
  refine nt hQ535 ?_
  clear hQ535 Q535
  refine KC.condF rfl ?_
  refine sr fun Q536 hQ536 => ?_
  refine RL.val (O.loadN (cs := [v8 s1.f_Proto, v16 s1.f_Src, v16 s1.f_Dst, v32 s1.f_Seq, v32 s1.f_Ack, v8 s1.f_Flags, v16 s1.f_Window, v16 s1.f_Urgent, .slice A2 (s1.f_Options).length c3, v8 s1.f_Type, v8 s1.f_Code, .slice A5 (s1.f_Data).length c6]) ag26 rfl (Cs.addsN [] ((hM.bx (i := 0) rfl)) rfl)) rfl ?_
  refine obindE hF fun y537 hx538 hF => ?_
  refine RL.call Try.func13 bd13 rfl rfl (c_trans_Right _ s1 _ _ (hM.inp hr4 Off.nil) _ _ (hM.inp hr7 Off.nil) _ hx538) fun v w539 hv => ?_
  obtain ⟨rfl, hN540⟩ := hv
  replace hM := hM.call0 hN540
  refine RL.val (O.not rfl) rfl ?_
  refine va rfl rfl ?_
  refine nt hQ536 ?_
  clear hQ536 Q536
  refine KC.cond rfl (fun hc => ?_) (fun hc => ?_)
  ·rw [if_pos hc] at hF
   refine sr fun Q541 hQ541 => ?_
   refine va rfl rfl ?_
   refine va rfl rfl ?_
   refine nt hQ541 ?_
   clear hQ541 Q541
   refine KC.ret ?_
   refine KQ.blk_r ?_
   refine KQ.thr hQ534 ?_
   clear hQ534 Q534
   have hE := Option.some.inj hF
   clear hF
   subst hE
   replace hM := hM.nilrow 5 1
   replace hM := hM.pick [3] rfl (by decide)
   refine KQ.rets Try.results11 (RVs.cons (RV.tm rfl) (RVs.cons (RV.tm rfl) RVs.nil)) ?_
   exact ⟨_, rfl, none, 0, rfl, hM⟩
  rw [if_neg (ne_true hc)] at hF
  refine KC.skip ?_
  refine KQ.blk_n ?_
  refine KQ.thn hQ534 ?_
  clear hQ534 Q534
  refine KC.cut (fun a w579 => ∃ (A576 : Option Addr) (c577 : Nat) (ok574 : Bool) (ahead578 : List Int), Kn 64 [(3, .pointer (some ⟨g17, 0, none⟩)), (8, .pointer (some ⟨g523, 0, none⟩)), (9, vB ok574), (10, .slice A576 (ahead578).length c577)] a ∧ Mem w [] w579 [.box g17 26 [v8 s1.f_Proto, v16 s1.f_Src, v16 s1.f_Dst, v32 s1.f_Seq, v32 s1.f_Ack, v8 s1.f_Flags, v16 s1.f_Window, v16 s1.f_Urgent, .slice A2 (s1.f_Options).length c3, v8 s1.f_Type, v8 s1.f_Code, .slice A5 (s1.f_Data).length c6], .box g523 62 [vI 20, vI 16, .func (.func 49) #[] #[], .func (.func 50) #[] #[], .func (.func 51) #[] #[]], .row A576 c577 5 1 (ahead578).length ((ahead578).flatMap (eI .u8))] ∧ F_trans_Put_j1 s1 ok574 ahead578 = some r) ?_ ?_
  ·replace hM := hM.drewN 1
   refine KC.draw [] [4] [1, 4, 7] [0, 5, 6, 8, 9, 10, 11, 12] (.cons 0 (.cons 2 (.cons 3 (.cons 5 (.cons 6 (.alt 1 (.ofList [4, 7, 8, 9, 10, 11, 12]) 4 (.ofList [1, 7, 8, 9, 10, 11, 12]))))))) moP (by kernel_rfl) ?_
   refine RD.p rfl rfl rfl rfl (fun w' => O.fldA fl26_0 (by decide) rfl) ?_
   refine RD.q rfl rfl rfl rfl (fun w' hf => O.loadN (cs := [vI 20, vI 16, .func (.func 49) #[] #[], .func (.func 50) #[] #[], .func (.func 51) #[] #[]]) ag62 rfl (Cs.addsN [] ((hM.bx (i := 1) rfl).fut hf) rfl)) ?_
   refine RD.q rfl rfl rfl rfl (fun w' hf => O.loadN (cs := [v8 s1.f_Proto, v16 s1.f_Src, v16 s1.f_Dst, v32 s1.f_Seq, v32 s1.f_Ack, v8 s1.f_Flags, v16 s1.f_Window, v16 s1.f_Urgent, .slice A2 (s1.f_Options).length c3, v8 s1.f_Type, v8 s1.f_Code, .slice A5 (s1.f_Data).length c6]) ag26 rfl (Cs.addsN [] ((hM.bx (i := 0) rfl).fut hf) rfl)) ?_
   refine RD.p rfl rfl rfl rfl (fun w' => O.move rfl) ?_
   refine RD.p rfl rfl rfl rfl (fun w' => O.move rfl) ?_
   refine RD.alt ?_ ?_
   ·refine RD.mq rfl rfl (O.load sc5 rfl (Cs.adds [0] ((hM.bx (i := 0) rfl)) rfl)) rfl ?_
    refine RD.micall rfl rfl rfl Try.func32 bd32 rfl rfl rfl Try.ntmps32 rfl ?_
    refine sr fun Q542 hQ542 => ?_
    refine RL.eff (E.box (vs := [vI 20, vI 16, .func (.func 49) #[] #[], .func (.func 50) #[] #[], .func (.func 51) #[] #[]]) hM rfl rfl) rfl fun v w544 hv => ?_
    clear hM
    obtain ⟨g543, rfl, hM, hf⟩ := hv
    refine RL.eff (E.box (vs := [v8 s1.f_Proto, v16 s1.f_Src, v16 s1.f_Dst, v32 s1.f_Seq, v32 s1.f_Ack, v8 s1.f_Flags, v16 s1.f_Window, v16 s1.f_Urgent, .slice A2 (s1.f_Options).length c3, v8 s1.f_Type, v8 s1.f_Code, .slice A5 (s1.f_Data).length c6]) hM rfl rfl) rfl fun v w547 hv => ?_
    clear hM
    obtain ⟨g546, rfl, hM, hf⟩ := hv
    refine va rfl rfl ?_
    refine nt hQ542 ?_
    clear hQ542 Q542
    replace hM := hM.pick [0, 1, 3, 4] rfl (by decide)
    refine sr fun Q549 hQ549 => ?_
    refine RL.val (O.fldA fl62_0 (by decide) rfl) rfl ?_
    refine RL.val (O.load sc3 rfl (Cs.adds [0] ((hM.bx (i := 2) rfl)) rfl)) rfl ?_
    refine RL.val (O.fldA fl26_8 (by decide) rfl) rfl ?_
    refine RL.val (O.load sc24 rfl (Cs.adds [8] ((hM.bx (i := 3) rfl)) rfl)) rfl ?_
    refine RL.val (O.len sl24 rfl) rfl ?_
    refine RL.val (O.add rfl rfl) rfl ?_
    refine RL.val (O.fldA fl26_11 (by decide) rfl) rfl ?_
    refine RL.val (O.load sc24 rfl (Cs.adds [11] ((hM.bx (i := 3) rfl)) rfl)) rfl ?_
    refine RL.val (O.len sl24 rfl) rfl ?_
    refine RL.val (O.add rfl rfl) rfl ?_
    refine va rfl rfl ?_
    refine nt hQ549 ?_
    clear hQ549 Q549
    refine KC.ret ?_
    refine KQ.rets Try.results32 (RVs.cons (RV.tm rfl) RVs.nil) ?_
    refine ⟨.int .i64 (IntKind.i64.wrap ((IntKind.i64.wrap (20 + (s1.f_Options.length : Int))) + (s1.f_Data.length : Int))), rfl, ?_⟩
    refine obindE hF fun y550 hx551 hF => ?_
    refine RD.mcall rfl rfl trivial Try.func31 bd31 rfl rfl (c_trans_pseudo _ s1.f_Proto (IntKind.i64.wrap ((IntKind.i64.wrap (20 + (s1.f_Options.length : Int))) + (s1.f_Data.length : Int))) _ _ src8 (hM.inp hr11 Off.nil) _ _ dst12 (hM.inp hr15 Off.nil) _ hx551) fun v w552 hv => ?_
    obtain ⟨A554, c555, rfl, hN553⟩ := hv
    refine ⟨fun _ => hN553.fut, ?_⟩
    replace hM := hM.call hN553
    refine RD.p rfl rfl rfl rfl (fun w' => O.move rfl) ?_
    refine RD.p rfl rfl rfl rfl (fun w' => O.ext rfl rfl) ?_
    refine RD.p rfl rfl rfl rfl (fun w' => O.ext rfl rfl) ?_
    refine RD.p rfl rfl rfl rfl (fun w' => O.assign rfl) ?_
    refine RD.p rfl rfl rfl rfl (fun w' => O.assign rfl) ?_
    refine RD.nil ?_
    refine KQ.then_k ?_
    replace hM := hM.pick [0, 1, 4] rfl (by decide)
    exact fun a ha => ⟨A554, c555, y550.2, y550.1, ha.less (less_cons rfl (less_cons rfl (less_cons rfl (less_cons rfl less_nil)))), hM, hF⟩
   refine RD.micall rfl rfl rfl Try.func32 bd32 rfl rfl rfl Try.ntmps32 rfl ?_
   refine sr fun Q557 hQ557 => ?_
   refine RL.eff (E.box (vs := [vI 20, vI 16, .func (.func 49) #[] #[], .func (.func 50) #[] #[], .func (.func 51) #[] #[]]) hM rfl rfl) rfl fun v w559 hv => ?_
   clear hM
   obtain ⟨g558, rfl, hM, hf⟩ := hv
   refine RL.eff (E.box (vs := [v8 s1.f_Proto, v16 s1.f_Src, v16 s1.f_Dst, v32 s1.f_Seq, v32 s1.f_Ack, v8 s1.f_Flags, v16 s1.f_Window, v16 s1.f_Urgent, .slice A2 (s1.f_Options).length c3, v8 s1.f_Type, v8 s1.f_Code, .slice A5 (s1.f_Data).length c6]) hM rfl rfl) rfl fun v w562 hv => ?_
   clear hM
   obtain ⟨g561, rfl, hM, hf⟩ := hv
   refine va rfl rfl ?_
   refine nt hQ557 ?_
   clear hQ557 Q557
   replace hM := hM.pick [0, 1, 3, 4] rfl (by decide)
   refine sr fun Q564 hQ564 => ?_
   refine RL.val (O.fldA fl62_0 (by decide) rfl) rfl ?_
   refine RL.val (O.load sc3 rfl (Cs.adds [0] ((hM.bx (i := 2) rfl)) rfl)) rfl ?_
   refine RL.val (O.fldA fl26_8 (by decide) rfl) rfl ?_
   refine RL.val (O.load sc24 rfl (Cs.adds [8] ((hM.bx (i := 3) rfl)) rfl)) rfl ?_
   refine RL.val (O.len sl24 rfl) rfl ?_
   refine RL.val (O.add rfl rfl) rfl ?_
   refine RL.val (O.fldA fl26_11 (by decide) rfl) rfl ?_
   refine RL.val (O.load sc24 rfl (Cs.adds [11] ((hM.bx (i := 3) rfl)) rfl)) rfl ?_
   refine RL.val (O.len sl24 rfl) rfl ?_
   refine RL.val (O.add rfl rfl) rfl ?_
   refine va rfl rfl ?_
   refine nt hQ564 ?_
   clear hQ564 Q564
   refine KC.ret ?_
   refine KQ.rets Try.results32 (RVs.cons (RV.tm rfl) RVs.nil) ?_
   refine ⟨.int .i64 (IntKind.i64.wrap ((IntKind.i64.wrap (20 + (s1.f_Options.length : Int))) + (s1.f_Data.length : Int))), rfl, ?_⟩
   refine RD.mq rfl rfl (O.load sc5 rfl (Cs.adds [0] ((hM.bx (i := 0) rfl)) rfl)) rfl ?_
   refine obindE hF fun y565 hx566 hF => ?_
   refine RD.mcall rfl rfl trivial Try.func31 bd31 rfl rfl (c_trans_pseudo _ s1.f_Proto (IntKind.i64.wrap ((IntKind.i64.wrap (20 + (s1.f_Options.length : Int))) + (s1.f_Data.length : Int))) _ _ src8 (hM.inp hr11 Off.nil) _ _ dst12 (hM.inp hr15 Off.nil) _ hx566) fun v w567 hv => ?_
   obtain ⟨A569, c570, rfl, hN568⟩ := hv
   refine ⟨fun _ => hN568.fut, ?_⟩
   replace hM := hM.call hN568
   refine RD.p rfl rfl rfl rfl (fun w' => O.move rfl) ?_
   refine RD.p rfl rfl rfl rfl (fun w' => O.ext rfl rfl) ?_
   refine RD.p rfl rfl rfl rfl (fun w' => O.ext rfl rfl) ?_
   refine RD.p rfl rfl rfl rfl (fun w' => O.assign rfl) ?_
   refine RD.p rfl rfl rfl rfl (fun w' => O.assign rfl) ?_
   refine RD.nil ?_
   refine KQ.then_k ?_
   replace hM := hM.pick [0, 1, 4] rfl (by decide)
   exact fun a ha => ⟨A569, c570, y565.2, y565.1, ha.less (less_cons rfl (less_cons rfl (less_cons rfl (less_cons rfl less_nil)))), hM, hF⟩
  rintro a w579 ⟨A576, c577, ok574, ahead578, ha, hM, hF⟩
  refine KC.app ha ?_
  clear ha
  unfold F_trans_Put_j1 at hF
  refine KC.seqH fun Q580 hQ580 => ?_
  refine sr fun Q581 hQ581 => ?_
  refine vm rfl rfl ?_
  refine RL.val (O.not rfl) rfl ?_
  refine nt hQ581 ?_
  clear hQ581 Q581
  refine KC.cond rfl (fun hc => ?_) (fun hc => ?_)
  ·rw [if_pos hc] at hF
   refine sr fun Q582 hQ582 => ?_
   refine va rfl rfl ?_
   refine va rfl rfl ?_
   refine nt hQ582 ?_
   clear hQ582 Q582
   refine KC.ret ?_
   refine KQ.thr hQ580 ?_
   clear hQ580 Q580
   have hE := Option.some.inj hF
   clear hF
   subst hE
   replace hM := hM.nilrow 5 1
   replace hM := hM.pick [3] rfl (by decide)
   refine KQ.rets Try.results11 (RVs.cons (RV.tm rfl) (RVs.cons (RV.tm rfl) RVs.nil)) ?_
   exact ⟨_, rfl, none, 0, rfl, hM⟩
  rw [if_neg (ne_true hc)] at hF
  refine KC.skip ?_
  refine KQ.thn hQ580 ?_
  clear hQ580 Q580
  refine sr fun Q583 hQ583 => ?_
  refine RL.eff (E.alloc hM ze70) rfl fun v w585 hv => ?_
  clear hM
  obtain ⟨g584, rfl, hM, hf⟩ := hv
  refine nt hQ583 ?_
  clear hQ583 Q583
  refine sr fun Q587 hQ587 => ?_
  refine RL.val (O.fldA fl62_3 (by decide) rfl) rfl ?_
  refine RL.val (O.load sc59 rfl (Cs.adds [3] ((hM.bx (i := 1) rfl)) rfl)) rfl ?_
  refine RL.val (O.loadN (cs := [v8 s1.f_Proto, v16 s1.f_Src, v16 s1.f_Dst, v32 s1.f_Seq, v32 s1.f_Ack, v8 s1.f_Flags, v16 s1.f_Window, v16 s1.f_Urgent, .slice A2 (s1.f_Options).length c3, v8 s1.f_Type, v8 s1.f_Code, .slice A5 (s1.f_Data).length c6]) ag26 rfl (Cs.addsN [] ((hM.bx (i := 0) rfl)) rfl)) rfl ?_
  replace hM := hM.nilrow 5 1
  refine obindE hF fun y589 hx590 hF => ?_
  refine RL.callv (first := []) (captured := []) rfl Try.func50 bd50 rfl rfl (c_trans_putTCP _ _ _ (T_bits_Writer.mk ([] : List Int)) _ _ (hM.lent [3, 4] rfl (by decide)) s1 _ _ (hM.inp hr4 Off.nil) (hM.offI [3, 4] rfl hr4 (Off.nil)) _ _ (hM.inp hr7 Off.nil) (hM.offI [3, 4] rfl hr7 (Off.nil)) _ hx590) fun v w591 hv => ?_
  obtain ⟨A593, c594, rfl, hN592⟩ := hv
  replace hM := hM.callL [3, 4] [0, 1, 2] rfl rfl (by decide) rfl hN592
  refine nt hQ587 ?_
  clear hQ587 Q587
  refine sr fun Q596 hQ596 => ?_
  refine RL.val (O.fldA fl26_11 (by decide) rfl) rfl ?_
  refine RL.val (O.load sc24 rfl (Cs.adds [11] ((hM.bx (i := 0) rfl)) rfl)) rfl ?_
  refine obindE hF fun y597 hx598 hF => ?_
  refine RL.call Try.func33 bd33 rfl rfl (c_bits_Writer_Raw _ _ _ y589 _ _ (hM.lent [3, 4] rfl (by decide)) _ _ s1.f_Data (hM.inp hr7 Off.nil) (hM.offI [3, 4] rfl hr7 (Off.nil)) _ hx598) fun v w599 hv => ?_
  obtain ⟨A601, c602, rfl, hN600⟩ := hv
  replace hM := hM.callL [3, 4] [0, 1, 2] rfl rfl (by decide) rfl hN600
  refine nt hQ596 ?_
  clear hQ596 Q596
  refine sr fun Q604 hQ604 => ?_
  refine vm rfl rfl ?_
  refine obindE hF fun y605 hx606 hF => ?_
  refine RL.call Try.func35 bd35 rfl rfl (c_bits_Writer_Bytes _ _ _ y597.2 _ _ (hM.lent [3, 4] rfl (by decide)) _ hx606) fun v w607 hv => ?_
  obtain ⟨A609, c610, A612, c613, rfl, hN608⟩ := hv
  replace hM := hM.callL [3, 4] [0, 1, 2] rfl rfl (by decide) rfl hN608
  refine RL.eff (E.bslR (enc := (eI .u8)) (us := [.slice A576 (ahead578).length c577, .slice A612 (y605.1).length c613]) (xss := [ahead578, y605.1]) (Rdl.cons ((hM.rd (i := 2) rfl)) (Rdl.cons ((hM.rd (i := 5) rfl)) Rdl.nil)) hM sl88 ze24 rfl rfl rfl rfl rfl) rfl fun v w615 hv => ?_
  clear hM
  obtain ⟨A616, rfl, hM, hf, hr617⟩ := hv
  refine obindE hF fun y618 hx619 hF => ?_
  refine RL.call Try.func34 bd34 rfl rfl (c_sum_Of _ _ _ ([ahead578, y605.1]) (hr617) _ hx619) fun v w620 hv => ?_
  obtain ⟨rfl, hN621⟩ := hv
  have hr617 := hr617.fut hN621.fut
  replace hM := hM.call0 hN621
  refine va rfl rfl ?_
  refine nt hQ604 ?_
  clear hQ604 Q604
  replace hM := hM.pick [0, 1, 3, 4] rfl (by decide)
  refine KC.cut (fun a w631 => ∃ (nv630 : Int), Kn 64 [(8, .pointer (some ⟨g523, 0, none⟩)), (11, .pointer (some ⟨g584, 0, none⟩)), (12, v16 nv630)] a ∧ Mem w [] w631 [.box g523 62 [vI 20, vI 16, .func (.func 49) #[] #[], .func (.func 50) #[] #[], .func (.func 51) #[] #[]], .row A609 c610 5 1 (y605.2.f_b).length ((y605.2.f_b).flatMap (eI .u8)), .box g584 70 [.slice A609 (y605.2.f_b).length c610]] ∧ F_trans_Put_j2 y605 nv630 = some r) ?_ ?_
  ·refine KC.cut (fun a w626 => ∃ (t625 : Bool), Kn 64 [(8, .pointer (some ⟨g523, 0, none⟩)), (11, .pointer (some ⟨g584, 0, none⟩)), (12, v16 y618), (57, vB t625)] a ∧ Mem w [] w626 [.box g523 62 [vI 20, vI 16, .func (.func 49) #[] #[], .func (.func 50) #[] #[], .func (.func 51) #[] #[]], .row A609 c610 5 1 (y605.2.f_b).length ((y605.2.f_b).flatMap (eI .u8)), .box g584 70 [.slice A609 (y605.2.f_b).length c610]] ∧ F_trans_Put_j3 y605 y618 t625 = some r) ?_ ?_
   ·refine KC.region ?_
    refine vm rfl rfl ?_
    refine RL.val (O.eql rfl rfl) rfl ?_
    refine vm rfl rfl ?_
    refine RL.bcase (t := 53) rfl (fun hc => ?_) (fun hc => ?_)
    ·rw [if_pos hc] at hF
     refine RL.gval rfl rfl (O.fldA fl26_0 (by decide) rfl) rfl ?_
     refine RL.gval rfl rfl (O.load sc5 rfl (Cs.adds [0] ((hM.bx (i := 0) rfl)) rfl)) rfl ?_
     refine RL.gval rfl rfl (O.eql rfl rfl) rfl ?_
     refine RL.val (O.pickt rfl rfl) rfl ?_
     refine RL.nil ?_
     refine KQ.then_k ?_
     replace hM := hM.pick [1, 3, 2] rfl (by decide)
     exact fun a ha => ⟨(s1.f_Proto == 17), ha.less (less_cons rfl (less_cons rfl (less_cons rfl (less_cons rfl less_nil)))), hM, hF⟩
    rw [if_neg (ne_true hc)] at hF
    refine RL.brun1 4 57 false (by kernel_rfl) ?_
    refine RL.nil ?_
    refine KQ.then_k ?_
    replace hM := hM.pick [1, 3, 2] rfl (by decide)
    exact fun a ha => ⟨false, ha.less (less_cons rfl (less_cons rfl (less_cons rfl (less_cons rfl less_nil)))), hM, hF⟩
   rintro a w626 ⟨t625, ha, hM, hF⟩
   refine KC.app ha ?_
   clear ha
   unfold F_trans_Put_j3 at hF
   refine KC.cond rfl (fun hc => ?_) (fun hc => ?_)
   ·rw [if_pos hc] at hF
    refine KC.region ?_
    refine va rfl rfl ?_
    refine RL.nil ?_
    refine KQ.then_k ?_
    exact fun a ha => ⟨65535, ha.less (less_cons rfl (less_cons rfl (less_cons rfl less_nil))), hM, hF⟩
   rw [if_neg (ne_true hc)] at hF
   refine KC.skip ?_
   refine KQ.then_k ?_
   exact fun a ha => ⟨y618, ha.less (less_cons rfl (less_cons rfl (less_cons rfl less_nil))), hM, hF⟩
  rintro a w631 ⟨nv630, ha, hM, hF⟩
  refine KC.app ha ?_
  clear ha
  unfold F_trans_Put_j2 at hF
  refine sr fun Q632 hQ632 => ?_
  refine RL.val (O.fldA fl62_1 (by decide) rfl) rfl ?_
  refine RL.val (O.load sc3 rfl (Cs.adds [1] ((hM.bx (i := 0) rfl)) rfl)) rfl ?_
  refine vm rfl rfl ?_
  refine RL.val (O.conv un22 Try.underlying76 rfl) rfl ?_
  refine obindE hF fun y633 hx634 hF => ?_
  refine RL.call Try.func36 bd36 rfl rfl (c_bits_Writer_Set _ _ _ y605.2 _ _ (hM.lent [2, 1] rfl (by decide)) 16 (IntKind.u64.wrap nv630) 2 _ hx634) fun v w635 hv => ?_
  obtain ⟨A637, c638, rfl, hN636⟩ := hv
  replace hM := hM.callL [2, 1] [0] rfl rfl (by decide) rfl hN636
  refine nt hQ632 ?_
  clear hQ632 Q632
  refine sr fun Q640 hQ640 => ?_
  refine obindE hF fun y641 hx642 hF => ?_
  refine RL.call Try.func35 bd35 rfl rfl (c_bits_Writer_Bytes _ _ _ y633.2 _ _ (hM.lent [1, 2] rfl (by decide)) _ hx642) fun v w643 hv => ?_
  obtain ⟨A645, c646, A648, c649, rfl, hN644⟩ := hv
  replace hM := hM.callL [1, 2] [0] rfl rfl (by decide) rfl hN644
  refine va rfl rfl ?_
  refine va rfl rfl ?_
  refine nt hQ640 ?_
  clear hQ640 Q640
  refine KC.ret ?_
  have hE := Option.some.inj hF
  clear hF
  subst hE
  replace hM := hM.pick [3] rfl (by decide)
  refine KQ.rets Try.results11 (RVs.cons (RV.tm rfl) (RVs.cons (RV.tm rfl) RVs.nil)) ?_
  exact ⟨_, rfl, A648, c649, rfl, hM⟩
 rw [if_neg hk532] at hF
 by_cases hk651 : (s1.f_Proto == 17) = true
 ·rw [if_pos hk651] at hF
  refine RD.q rfl rfl rfl rfl (fun w' hf => O.lkT ((hM.mapAt (i := 2) rfl).fut hf) Try.underlying64 Try.underlying5 rfl rfl (lk_miss hk532 (lk_hit hk651))) ?_
  refine RD.p rfl rfl rfl rfl (fun w' => O.move rfl) ?_
  refine RD.p rfl rfl rfl rfl (fun w' => O.ext rfl rfl) ?_
  refine RD.p rfl rfl rfl rfl (fun w' => O.ext rfl rfl) ?_
  refine RD.meffs rfl rfl rfl (E.stB (j := 1) (off := 0) (vs := [vI 8, vI 6, .func (.func 52) #[] #[], .func (.func 53) #[] #[], .func (.func 54) #[] #[]]) (cs' := [vI 8, vI 6, .func (.func 52) #[] #[], .func (.func 53) #[] #[], .func (.func 54) #[] #[]]) hM rfl sz62 rfl (adds_eq [] rfl) rfl rfl (One.all rfl) rfl rfl) fun w652 hM1 => ?_
  clear hM
  have hM := hM1
  clear hM1
  refine RD.p rfl rfl rfl rfl (fun w' => O.assign rfl) ?_
  refine RD.nil ?_
  refine KQ.thn hQ20 ?_
  clear hQ20 Q20
  refine KC.seqH fun Q653 hQ653 => ?_
  refine KC.block ?_
  refine sr fun Q654 hQ654 => ?_
  refine vm rfl rfl ?_
  refine RL.val (O.not rfl) rfl ?_
  refine va rfl rfl ?_
  refine nt hQ654 ?_
  clear hQ654 Q654
  refine KC.condF rfl ?_
  refine sr fun Q655 hQ655 => ?_
  refine RL.val (O.loadN (cs := [v8 s1.f_Proto, v16 s1.f_Src, v16 s1.f_Dst, v32 s1.f_Seq, v32 s1.f_Ack, v8 s1.f_Flags, v16 s1.f_Window, v16 s1.f_Urgent, .slice A2 (s1.f_Options).length c3, v8 s1.f_Type, v8 s1.f_Code, .slice A5 (s1.f_Data).length c6]) ag26 rfl (Cs.addsN [] ((hM.bx (i := 0) rfl)) rfl)) rfl ?_
  refine obindE hF fun y656 hx657 hF => ?_
  refine RL.call Try.func13 bd13 rfl rfl (c_trans_Right _ s1 _ _ (hM.inp hr4 Off.nil) _ _ (hM.inp hr7 Off.nil) _ hx657) fun v w658 hv => ?_
  obtain ⟨rfl, hN659⟩ := hv
  replace hM := hM.call0 hN659
  refine RL.val (O.not rfl) rfl ?_
  refine va rfl rfl ?_
  refine nt hQ655 ?_
  clear hQ655 Q655
  refine KC.cond rfl (fun hc => ?_) (fun hc => ?_)
  ·rw [if_pos hc] at hF
   refine sr fun Q660 hQ660 => ?_
   refine va rfl rfl ?_
   refine va rfl rfl ?_
   refine nt hQ660 ?_
   clear hQ660 Q660
   refine KC.ret ?_
   refine KQ.blk_r ?_
   refine KQ.thr hQ653 ?_
   clear hQ653 Q653
   have hE := Option.some.inj hF
   clear hF
   subst hE
   replace hM := hM.nilrow 5 1
   replace hM := hM.pick [3] rfl (by decide)
   refine KQ.rets Try.results11 (RVs.cons (RV.tm rfl) (RVs.cons (RV.tm rfl) RVs.nil)) ?_
   exact ⟨_, rfl, none, 0, rfl, hM⟩
  rw [if_neg (ne_true hc)] at hF
  refine KC.skip ?_
  refine KQ.blk_n ?_
  refine KQ.thn hQ653 ?_
  clear hQ653 Q653
  refine KC.cut (fun a w698 => ∃ (A695 : Option Addr) (c696 : Nat) (ok693 : Bool) (ahead697 : List Int), Kn 64 [(3, .pointer (some ⟨g17, 0, none⟩)), (8, .pointer (some ⟨g523, 0, none⟩)), (9, vB ok693), (10, .slice A695 (ahead697).length c696)] a ∧ Mem w [] w698 [.box g17 26 [v8 s1.f_Proto, v16 s1.f_Src, v16 s1.f_Dst, v32 s1.f_Seq, v32 s1.f_Ack, v8 s1.f_Flags, v16 s1.f_Window, v16 s1.f_Urgent, .slice A2 (s1.f_Options).length c3, v8 s1.f_Type, v8 s1.f_Code, .slice A5 (s1.f_Data).length c6], .box g523 62 [vI 8, vI 6, .func (.func 52) #[] #[], .func (.func 53) #[] #[], .func (.func 54) #[] #[]], .row A695 c696 5 1 (ahead697).length ((ahead697).flatMap (eI .u8))] ∧ F_trans_Put_j4 s1 ok693 ahead697 = some r) ?_ ?_
  ·replace hM := hM.drewN 1
   refine KC.draw [] [4] [1, 4, 7] [0, 5, 6, 8, 9, 10, 11, 12] (.cons 0 (.cons 2 (.cons 3 (.cons 5 (.cons 6 (.alt 1 (.ofList [4, 7, 8, 9, 10, 11, 12]) 4 (.ofList [1, 7, 8, 9, 10, 11, 12]))))))) moP (by kernel_rfl) ?_
   refine RD.p rfl rfl rfl rfl (fun w' => O.fldA fl26_0 (by decide) rfl) ?_
   refine RD.q rfl rfl rfl rfl (fun w' hf => O.loadN (cs := [vI 8, vI 6, .func (.func 52) #[] #[], .func (.func 53) #[] #[], .func (.func 54) #[] #[]]) ag62 rfl (Cs.addsN [] ((hM.bx (i := 1) rfl).fut hf) rfl)) ?_
   refine RD.q rfl rfl rfl rfl (fun w' hf => O.loadN (cs := [v8 s1.f_Proto, v16 s1.f_Src, v16 s1.f_Dst, v32 s1.f_Seq, v32 s1.f_Ack, v8 s1.f_Flags, v16 s1.f_Window, v16 s1.f_Urgent, .slice A2 (s1.f_Options).length c3, v8 s1.f_Type, v8 s1.f_Code, .slice A5 (s1.f_Data).length c6]) ag26 rfl (Cs.addsN [] ((hM.bx (i := 0) rfl).fut hf) rfl)) ?_
   refine RD.p rfl rfl rfl rfl (fun w' => O.move rfl) ?_
   refine RD.p rfl rfl rfl rfl (fun w' => O.move rfl) ?_
   refine RD.alt ?_ ?_
   ·refine RD.mq rfl rfl (O.load sc5 rfl (Cs.adds [0] ((hM.bx (i := 0) rfl)) rfl)) rfl ?_
    refine RD.micall rfl rfl rfl Try.func32 bd32 rfl rfl rfl Try.ntmps32 rfl ?_
    refine sr fun Q661 hQ661 => ?_
    refine RL.eff (E.box (vs := [vI 8, vI 6, .func (.func 52) #[] #[], .func (.func 53) #[] #[], .func (.func 54) #[] #[]]) hM rfl rfl) rfl fun v w663 hv => ?_
    clear hM
    obtain ⟨g662, rfl, hM, hf⟩ := hv
    refine RL.eff (E.box (vs := [v8 s1.f_Proto, v16 s1.f_Src, v16 s1.f_Dst, v32 s1.f_Seq, v32 s1.f_Ack, v8 s1.f_Flags, v16 s1.f_Window, v16 s1.f_Urgent, .slice A2 (s1.f_Options).length c3, v8 s1.f_Type, v8 s1.f_Code, .slice A5 (s1.f_Data).length c6]) hM rfl rfl) rfl fun v w666 hv => ?_
    clear hM
    obtain ⟨g665, rfl, hM, hf⟩ := hv
    refine va rfl rfl ?_
    refine nt hQ661 ?_
    clear hQ661 Q661
    replace hM := hM.pick [0, 1, 3, 4] rfl (by decide)
    refine sr fun Q668 hQ668 => ?_
    refine RL.val (O.fldA fl62_0 (by decide) rfl) rfl ?_
    refine RL.val (O.load sc3 rfl (Cs.adds [0] ((hM.bx (i := 2) rfl)) rfl)) rfl ?_
    refine RL.val (O.fldA fl26_8 (by decide) rfl) rfl ?_
    refine RL.val (O.load sc24 rfl (Cs.adds [8] ((hM.bx (i := 3) rfl)) rfl)) rfl ?_
    refine RL.val (O.len sl24 rfl) rfl ?_
    refine RL.val (O.add rfl rfl) rfl ?_
    refine RL.val (O.fldA fl26_11 (by decide) rfl) rfl ?_
    refine RL.val (O.load sc24 rfl (Cs.adds [11] ((hM.bx (i := 3) rfl)) rfl)) rfl ?_
    refine RL.val (O.len sl24 rfl) rfl ?_
    refine RL.val (O.add rfl rfl) rfl ?_
    refine va rfl rfl ?_
    refine nt hQ668 ?_
    clear hQ668 Q668
    refine KC.ret ?_
    refine KQ.rets Try.results32 (RVs.cons (RV.tm rfl) RVs.nil) ?_
    refine ⟨.int .i64 (IntKind.i64.wrap ((IntKind.i64.wrap (8 + (s1.f_Options.length : Int))) + (s1.f_Data.length : Int))), rfl, ?_⟩
    refine obindE hF fun y669 hx670 hF => ?_
    refine RD.mcall rfl rfl trivial Try.func31 bd31 rfl rfl (c_trans_pseudo _ s1.f_Proto (IntKind.i64.wrap ((IntKind.i64.wrap (8 + (s1.f_Options.length : Int))) + (s1.f_Data.length : Int))) _ _ src8 (hM.inp hr11 Off.nil) _ _ dst12 (hM.inp hr15 Off.nil) _ hx670) fun v w671 hv => ?_
    obtain ⟨A673, c674, rfl, hN672⟩ := hv
    refine ⟨fun _ => hN672.fut, ?_⟩
    replace hM := hM.call hN672
    refine RD.p rfl rfl rfl rfl (fun w' => O.move rfl) ?_
    refine RD.p rfl rfl rfl rfl (fun w' => O.ext rfl rfl) ?_
    refine RD.p rfl rfl rfl rfl (fun w' => O.ext rfl rfl) ?_
    refine RD.p rfl rfl rfl rfl (fun w' => O.assign rfl) ?_
    refine RD.p rfl rfl rfl rfl (fun w' => O.assign rfl) ?_
    refine RD.nil ?_
    refine KQ.then_k ?_
    replace hM := hM.pick [0, 1, 4] rfl (by decide)
    exact fun a ha => ⟨A673, c674, y669.2, y669.1, ha.less (less_cons rfl (less_cons rfl (less_cons rfl (less_cons rfl less_nil)))), hM, hF⟩
   refine RD.micall rfl rfl rfl Try.func32 bd32 rfl rfl rfl Try.ntmps32 rfl ?_
   refine sr fun Q676 hQ676 => ?_
   refine RL.eff (E.box (vs := [vI 8, vI 6, .func (.func 52) #[] #[], .func (.func 53) #[] #[], .func (.func 54) #[] #[]]) hM rfl rfl) rfl fun v w678 hv => ?_
   clear hM
   obtain ⟨g677, rfl, hM, hf⟩ := hv
   refine RL.eff (E.box (vs := [v8 s1.f_Proto, v16 s1.f_Src, v16 s1.f_Dst, v32 s1.f_Seq, v32 s1.f_Ack, v8 s1.f_Flags, v16 s1.f_Window, v16 s1.f_Urgent, .slice A2 (s1.f_Options).length c3, v8 s1.f_Type, v8 s1.f_Code, .slice A5 (s1.f_Data).length c6]) hM rfl rfl) rfl fun v w681 hv => ?_
   clear hM
   obtain ⟨g680, rfl, hM, hf⟩ := hv
   refine va rfl rfl ?_
   refine nt hQ676 ?_
   clear hQ676 Q676
   replace hM := hM.pick [0, 1, 3, 4] rfl (by decide)
   refine sr fun Q683 hQ683 => ?_
   refine RL.val (O.fldA fl62_0 (by decide) rfl) rfl ?_
   refine RL.val (O.load sc3 rfl (Cs.adds [0] ((hM.bx (i := 2) rfl)) rfl)) rfl ?_
   refine RL.val (O.fldA fl26_8 (by decide) rfl) rfl ?_
   refine RL.val (O.load sc24 rfl (Cs.adds [8] ((hM.bx (i := 3) rfl)) rfl)) rfl ?_
   refine RL.val (O.len sl24 rfl) rfl ?_
   refine RL.val (O.add rfl rfl) rfl ?_
   refine RL.val (O.fldA fl26_11 (by decide) rfl) rfl ?_
   refine RL.val (O.load sc24 rfl (Cs.adds [11] ((hM.bx (i := 3) rfl)) rfl)) rfl ?_
   refine RL.val (O.len sl24 rfl) rfl ?_
   refine RL.val (O.add rfl rfl) rfl ?_
   refine va rfl rfl ?_
   refine nt hQ683 ?_
   clear hQ683 Q683
   refine KC.ret ?_
   refine KQ.rets Try.results32 (RVs.cons (RV.tm rfl) RVs.nil) ?_
   refine ⟨.int .i64 (IntKind.i64.wrap ((IntKind.i64.wrap (8 + (s1.f_Options.length : Int))) + (s1.f_Data.length : Int))), rfl, ?_⟩
   refine RD.mq rfl rfl (O.load sc5 rfl (Cs.adds [0] ((hM.bx (i := 0) rfl)) rfl)) rfl ?_
   refine obindE hF fun y684 hx685 hF => ?_
   refine RD.mcall rfl rfl trivial Try.func31 bd31 rfl rfl (c_trans_pseudo _ s1.f_Proto (IntKind.i64.wrap ((IntKind.i64.wrap (8 + (s1.f_Options.length : Int))) + (s1.f_Data.length : Int))) _ _ src8 (hM.inp hr11 Off.nil) _ _ dst12 (hM.inp hr15 Off.nil) _ hx685) fun v w686 hv => ?_
   obtain ⟨A688, c689, rfl, hN687⟩ := hv
   refine ⟨fun _ => hN687.fut, ?_⟩
   replace hM := hM.call hN687
   refine RD.p rfl rfl rfl rfl (fun w' => O.move rfl) ?_
   refine RD.p rfl rfl rfl rfl (fun w' => O.ext rfl rfl) ?_
   refine RD.p rfl rfl rfl rfl (fun w' => O.ext rfl rfl) ?_
   refine RD.p rfl rfl rfl rfl (fun w' => O.assign rfl) ?_
   refine RD.p rfl rfl rfl rfl (fun w' => O.assign rfl) ?_
   refine RD.nil ?_
   refine KQ.then_k ?_
   replace hM := hM.pick [0, 1, 4] rfl (by decide)
   exact fun a ha => ⟨A688, c689, y684.2, y684.1, ha.less (less_cons rfl (less_cons rfl (less_cons rfl (less_cons rfl less_nil)))), hM, hF⟩
  rintro a w698 ⟨A695, c696, ok693, ahead697, ha, hM, hF⟩
  refine KC.app ha ?_
  clear ha
  unfold F_trans_Put_j4 at hF
  refine KC.seqH fun Q699 hQ699 => ?_
  refine sr fun Q700 hQ700 => ?_
  refine vm rfl rfl ?_
  refine RL.val (O.not rfl) rfl ?_
  refine nt hQ700 ?_
  clear hQ700 Q700
  refine KC.cond rfl (fun hc => ?_) (fun hc => ?_)
  ·rw [if_pos hc] at hF
   refine sr fun Q701 hQ701 => ?_
   refine va rfl rfl ?_
   refine va rfl rfl ?_
   refine nt hQ701 ?_
   clear hQ701 Q701
   refine KC.ret ?_
   refine KQ.thr hQ699 ?_
   clear hQ699 Q699
   have hE := Option.some.inj hF
   clear hF
   subst hE
   replace hM := hM.nilrow 5 1
   replace hM := hM.pick [3] rfl (by decide)
   refine KQ.rets Try.results11 (RVs.cons (RV.tm rfl) (RVs.cons (RV.tm rfl) RVs.nil)) ?_
   exact ⟨_, rfl, none, 0, rfl, hM⟩
  rw [if_neg (ne_true hc)] at hF
  refine KC.skip ?_
  refine KQ.thn hQ699 ?_
  clear hQ699 Q699
  refine sr fun Q702 hQ702 => ?_
  refine RL.eff (E.alloc hM ze70) rfl fun v w704 hv => ?_
  clear hM
  obtain ⟨g703, rfl, hM, hf⟩ := hv
  refine nt hQ702 ?_
  clear hQ702 Q702
  refine sr fun Q706 hQ706 => ?_
  refine RL.val (O.fldA fl62_3 (by decide) rfl) rfl ?_
  refine RL.val (O.load sc59 rfl (Cs.adds [3] ((hM.bx (i := 1) rfl)) rfl)) rfl ?_
  refine RL.val (O.loadN (cs := [v8 s1.f_Proto, v16 s1.f_Src, v16 s1.f_Dst, v32 s1.f_Seq, v32 s1.f_Ack, v8 s1.f_Flags, v16 s1.f_Window, v16 s1.f_Urgent, .slice A2 (s1.f_Options).length c3, v8 s1.f_Type, v8 s1.f_Code, .slice A5 (s1.f_Data).length c6]) ag26 rfl (Cs.addsN [] ((hM.bx (i := 0) rfl)) rfl)) rfl ?_
  replace hM := hM.nilrow 5 1
  refine obindE hF fun y708 hx709 hF => ?_
  refine RL.callv (first := []) (captured := []) rfl Try.func53 bd53 rfl rfl (c_trans_putUDP _ _ _ (T_bits_Writer.mk ([] : List Int)) _ _ (hM.lent [3, 4] rfl (by decide)) s1 _ _ (hM.inp hr4 Off.nil) (hM.offI [3, 4] rfl hr4 (Off.nil)) _ _ (hM.inp hr7 Off.nil) (hM.offI [3, 4] rfl hr7 (Off.nil)) _ hx709) fun v w710 hv => ?_
  obtain ⟨A712, c713, rfl, hN711⟩ := hv
  replace hM := hM.callL [3, 4] [0, 1, 2] rfl rfl (by decide) rfl hN711
  refine nt hQ706 ?_
  clear hQ706 Q706
  refine sr fun Q715 hQ715 => ?_
  refine RL.val (O.fldA fl26_11 (by decide) rfl) rfl ?_
  refine RL.val (O.load sc24 rfl (Cs.adds [11] ((hM.bx (i := 0) rfl)) rfl)) rfl ?_
  refine obindE hF fun y716 hx717 hF => ?_
  refine RL.call Try.func33 bd33 rfl rfl (c_bits_Writer_Raw _ _ _ y708 _ _ (hM.lent [3, 4] rfl (by decide)) _ _ s1.f_Data (hM.inp hr7 Off.nil) (hM.offI [3, 4] rfl hr7 (Off.nil)) _ hx717) fun v w718 hv => ?_
  obtain ⟨A720, c721, rfl, hN719⟩ := hv
  replace hM := hM.callL [3, 4] [0, 1, 2] rfl rfl (by decide) rfl hN719
  refine nt hQ715 ?_
  clear hQ715 Q715
  refine sr fun Q723 hQ723 => ?_
  refine vm rfl rfl ?_
  refine obindE hF fun y724 hx725 hF => ?_
  refine RL.call Try.func35 bd35 rfl rfl (c_bits_Writer_Bytes _ _ _ y716.2 _ _ (hM.lent [3, 4] rfl (by decide)) _ hx725) fun v w726 hv => ?_
  obtain ⟨A728, c729, A731, c732, rfl, hN727⟩ := hv
  replace hM := hM.callL [3, 4] [0, 1, 2] rfl rfl (by decide) rfl hN727
  refine RL.eff (E.bslR (enc := (eI .u8)) (us := [.slice A695 (ahead697).length c696, .slice A731 (y724.1).length c732]) (xss := [ahead697, y724.1]) (Rdl.cons ((hM.rd (i := 2) rfl)) (Rdl.cons ((hM.rd (i := 5) rfl)) Rdl.nil)) hM sl88 ze24 rfl rfl rfl rfl rfl) rfl fun v w734 hv => ?_
  clear hM
  obtain ⟨A735, rfl, hM, hf, hr736⟩ := hv
  refine obindE hF fun y737 hx738 hF => ?_
  refine RL.call Try.func34 bd34 rfl rfl (c_sum_Of _ _ _ ([ahead697, y724.1]) (hr736) _ hx738) fun v w739 hv => ?_
  obtain ⟨rfl, hN740⟩ := hv
  have hr736 := hr736.fut hN740.fut
  replace hM := hM.call0 hN740
  refine va rfl rfl ?_
  refine nt hQ723 ?_
  clear hQ723 Q723
  replace hM := hM.pick [0, 1, 3, 4] rfl (by decide)
  refine KC.cut (fun a w750 => ∃ (nv749 : Int), Kn 64 [(8, .pointer (some ⟨g523, 0, none⟩)), (11, .pointer (some ⟨g703, 0, none⟩)), (12, v16 nv749)] a ∧ Mem w [] w750 [.box g523 62 [vI 8, vI 6, .func (.func 52) #[] #[], .func (.func 53) #[] #[], .func (.func 54) #[] #[]], .row A728 c729 5 1 (y724.2.f_b).length ((y724.2.f_b).flatMap (eI .u8)), .box g703 70 [.slice A728 (y724.2.f_b).length c729]] ∧ F_trans_Put_j5 y724 nv749 = some r) ?_ ?_
  ·refine KC.cut (fun a w745 => ∃ (t744 : Bool), Kn 64 [(8, .pointer (some ⟨g523, 0, none⟩)), (11, .pointer (some ⟨g703, 0, none⟩)), (12, v16 y737), (57, vB t744)] a ∧ Mem w [] w745 [.box g523 62 [vI 8, vI 6, .func (.func 52) #[] #[], .func (.func 53) #[] #[], .func (.func 54) #[] #[]], .row A728 c729 5 1 (y724.2.f_b).length ((y724.2.f_b).flatMap (eI .u8)), .box g703 70 [.slice A728 (y724.2.f_b).length c729]] ∧ F_trans_Put_j6 y724 y737 t744 = some r) ?_ ?_
   ·refine KC.region ?_
    refine vm rfl rfl ?_
    refine RL.val (O.eql rfl rfl) rfl ?_
    refine vm rfl rfl ?_
    refine RL.bcase (t := 53) rfl (fun hc => ?_) (fun hc => ?_)
    ·rw [if_pos hc] at hF
     refine RL.gval rfl rfl (O.fldA fl26_0 (by decide) rfl) rfl ?_
     refine RL.gval rfl rfl (O.load sc5 rfl (Cs.adds [0] ((hM.bx (i := 0) rfl)) rfl)) rfl ?_
     refine RL.gval rfl rfl (O.eql rfl rfl) rfl ?_
     refine RL.val (O.pickt rfl rfl) rfl ?_
     refine RL.nil ?_
     refine KQ.then_k ?_
     replace hM := hM.pick [1, 3, 2] rfl (by decide)
     exact fun a ha => ⟨(s1.f_Proto == 17), ha.less (less_cons rfl (less_cons rfl (less_cons rfl (less_cons rfl less_nil)))), hM, hF⟩
    rw [if_neg (ne_true hc)] at hF
    refine RL.brun1 4 57 false (by kernel_rfl) ?_
    refine RL.nil ?_
    refine KQ.then_k ?_
    replace hM := hM.pick [1, 3, 2] rfl (by decide)
    exact fun a ha => ⟨false, ha.less (less_cons rfl (less_cons rfl (less_cons rfl (less_cons rfl less_nil)))), hM, hF⟩
   rintro a w745 ⟨t744, ha, hM, hF⟩
   refine KC.app ha ?_
   clear ha
   unfold F_trans_Put_j6 at hF
   refine KC.cond rfl (fun hc => ?_) (fun hc => ?_)
   ·rw [if_pos hc] at hF
    refine KC.region ?_
    refine va rfl rfl ?_
    refine RL.nil ?_
    refine KQ.then_k ?_
    exact fun a ha => ⟨65535, ha.less (less_cons rfl (less_cons rfl (less_cons rfl less_nil))), hM, hF⟩
   rw [if_neg (ne_true hc)] at hF
   refine KC.skip ?_
   refine KQ.then_k ?_
   exact fun a ha => ⟨y737, ha.less (less_cons rfl (less_cons rfl (less_cons rfl less_nil))), hM, hF⟩
  rintro a w750 ⟨nv749, ha, hM, hF⟩
  refine KC.app ha ?_
  clear ha
  unfold F_trans_Put_j5 at hF
  refine sr fun Q751 hQ751 => ?_
  refine RL.val (O.fldA fl62_1 (by decide) rfl) rfl ?_
  refine RL.val (O.load sc3 rfl (Cs.adds [1] ((hM.bx (i := 0) rfl)) rfl)) rfl ?_
  refine vm rfl rfl ?_
  refine RL.val (O.conv un22 Try.underlying76 rfl) rfl ?_
  refine obindE hF fun y752 hx753 hF => ?_
  refine RL.call Try.func36 bd36 rfl rfl (c_bits_Writer_Set _ _ _ y724.2 _ _ (hM.lent [2, 1] rfl (by decide)) 6 (IntKind.u64.wrap nv749) 2 _ hx753) fun v w754 hv => ?_
  obtain ⟨A756, c757, rfl, hN755⟩ := hv
  replace hM := hM.callL [2, 1] [0] rfl rfl (by decide) rfl hN755
  refine nt hQ751 ?_
  clear hQ751 Q751
  refine sr fun Q759 hQ759 => ?_
  refine obindE hF fun y760 hx761 hF => ?_
  refine RL.call Try.func35 bd35 rfl rfl (c_bits_Writer_Bytes _ _ _ y752.2 _ _ (hM.lent [1, 2] rfl (by decide)) _ hx761) fun v w762 hv => ?_
  obtain ⟨A764, c765, A767, c768, rfl, hN763⟩ := hv
  replace hM := hM.callL [1, 2] [0] rfl rfl (by decide) rfl hN763
  refine va rfl rfl ?_
  refine va rfl rfl ?_
  refine nt hQ759 ?_
  clear hQ759 Q759
  refine KC.ret ?_
  have hE := Option.some.inj hF
  clear hF
  subst hE
  replace hM := hM.pick [3] rfl (by decide)
  refine KQ.rets Try.results11 (RVs.cons (RV.tm rfl) (RVs.cons (RV.tm rfl) RVs.nil)) ?_
  exact ⟨_, rfl, A767, c768, rfl, hM⟩
 rw [if_neg hk651] at hF
 by_cases hk770 : (s1.f_Proto == 1) = true
 ·rw [if_pos hk770] at hF
  refine RD.q rfl rfl rfl rfl (fun w' hf => O.lkT ((hM.mapAt (i := 2) rfl).fut hf) Try.underlying64 Try.underlying5 rfl rfl (lk_miss hk532 (lk_miss hk651 (lk_hit hk770)))) ?_
  refine RD.p rfl rfl rfl rfl (fun w' => O.move rfl) ?_
  refine RD.p rfl rfl rfl rfl (fun w' => O.ext rfl rfl) ?_
  refine RD.p rfl rfl rfl rfl (fun w' => O.ext rfl rfl) ?_
  refine RD.meffs rfl rfl rfl (E.stB (j := 1) (off := 0) (vs := [vI 4, vI 2, .func (.func 46) #[] #[], .func (.func 47) #[] #[], .func (.func 48) #[] #[]]) (cs' := [vI 4, vI 2, .func (.func 46) #[] #[], .func (.func 47) #[] #[], .func (.func 48) #[] #[]]) hM rfl sz62 rfl (adds_eq [] rfl) rfl rfl (One.all rfl) rfl rfl) fun w771 hM1 => ?_
  clear hM
  have hM := hM1
  clear hM1
  refine RD.p rfl rfl rfl rfl (fun w' => O.assign rfl) ?_
  refine RD.nil ?_
  refine KQ.thn hQ20 ?_
  clear hQ20 Q20
  refine KC.seqH fun Q772 hQ772 => ?_
  refine KC.block ?_
  refine sr fun Q773 hQ773 => ?_
  refine vm rfl rfl ?_
  refine RL.val (O.not rfl) rfl ?_
  refine va rfl rfl ?_
  refine nt hQ773 ?_
  clear hQ773 Q773
  refine KC.condF rfl ?_
  refine sr fun Q774 hQ774 => ?_
  refine RL.val (O.loadN (cs := [v8 s1.f_Proto, v16 s1.f_Src, v16 s1.f_Dst, v32 s1.f_Seq, v32 s1.f_Ack, v8 s1.f_Flags, v16 s1.f_Window, v16 s1.f_Urgent, .slice A2 (s1.f_Options).length c3, v8 s1.f_Type, v8 s1.f_Code, .slice A5 (s1.f_Data).length c6]) ag26 rfl (Cs.addsN [] ((hM.bx (i := 0) rfl)) rfl)) rfl ?_
  refine obindE hF fun y775 hx776 hF => ?_
  refine RL.call Try.func13 bd13 rfl rfl (c_trans_Right _ s1 _ _ (hM.inp hr4 Off.nil) _ _ (hM.inp hr7 Off.nil) _ hx776) fun v w777 hv => ?_
  obtain ⟨rfl, hN778⟩ := hv
  replace hM := hM.call0 hN778
  refine RL.val (O.not rfl) rfl ?_
  refine va rfl rfl ?_
  refine nt hQ774 ?_
  clear hQ774 Q774
  refine KC.cond rfl (fun hc => ?_) (fun hc => ?_)
  ·rw [if_pos hc] at hF
   refine sr fun Q779 hQ779 => ?_
   refine va rfl rfl ?_
   refine va rfl rfl ?_
   refine nt hQ779 ?_
   clear hQ779 Q779
   refine KC.ret ?_
   refine KQ.blk_r ?_
   refine KQ.thr hQ772 ?_
   clear hQ772 Q772
   have hE := Option.some.inj hF
   clear hF
   subst hE
   replace hM := hM.nilrow 5 1
   replace hM := hM.pick [3] rfl (by decide)
   refine KQ.rets Try.results11 (RVs.cons (RV.tm rfl) (RVs.cons (RV.tm rfl) RVs.nil)) ?_
   exact ⟨_, rfl, none, 0, rfl, hM⟩
  rw [if_neg (ne_true hc)] at hF
  refine KC.skip ?_
  refine KQ.blk_n ?_
  refine KQ.thn hQ772 ?_
  clear hQ772 Q772
  refine KC.cut (fun a w817 => ∃ (A814 : Option Addr) (c815 : Nat) (ok812 : Bool) (ahead816 : List Int), Kn 64 [(3, .pointer (some ⟨g17, 0, none⟩)), (8, .pointer (some ⟨g523, 0, none⟩)), (9, vB ok812), (10, .slice A814 (ahead816).length c815)] a ∧ Mem w [] w817 [.box g17 26 [v8 s1.f_Proto, v16 s1.f_Src, v16 s1.f_Dst, v32 s1.f_Seq, v32 s1.f_Ack, v8 s1.f_Flags, v16 s1.f_Window, v16 s1.f_Urgent, .slice A2 (s1.f_Options).length c3, v8 s1.f_Type, v8 s1.f_Code, .slice A5 (s1.f_Data).length c6], .box g523 62 [vI 4, vI 2, .func (.func 46) #[] #[], .func (.func 47) #[] #[], .func (.func 48) #[] #[]], .row A814 c815 5 1 (ahead816).length ((ahead816).flatMap (eI .u8))] ∧ F_trans_Put_j7 s1 ok812 ahead816 = some r) ?_ ?_
  ·replace hM := hM.drewN 1
   refine KC.draw [] [4] [1, 4, 7] [0, 5, 6, 8, 9, 10, 11, 12] (.cons 0 (.cons 2 (.cons 3 (.cons 5 (.cons 6 (.alt 1 (.ofList [4, 7, 8, 9, 10, 11, 12]) 4 (.ofList [1, 7, 8, 9, 10, 11, 12]))))))) moP (by kernel_rfl) ?_
   refine RD.p rfl rfl rfl rfl (fun w' => O.fldA fl26_0 (by decide) rfl) ?_
   refine RD.q rfl rfl rfl rfl (fun w' hf => O.loadN (cs := [vI 4, vI 2, .func (.func 46) #[] #[], .func (.func 47) #[] #[], .func (.func 48) #[] #[]]) ag62 rfl (Cs.addsN [] ((hM.bx (i := 1) rfl).fut hf) rfl)) ?_
   refine RD.q rfl rfl rfl rfl (fun w' hf => O.loadN (cs := [v8 s1.f_Proto, v16 s1.f_Src, v16 s1.f_Dst, v32 s1.f_Seq, v32 s1.f_Ack, v8 s1.f_Flags, v16 s1.f_Window, v16 s1.f_Urgent, .slice A2 (s1.f_Options).length c3, v8 s1.f_Type, v8 s1.f_Code, .slice A5 (s1.f_Data).length c6]) ag26 rfl (Cs.addsN [] ((hM.bx (i := 0) rfl).fut hf) rfl)) ?_
   refine RD.p rfl rfl rfl rfl (fun w' => O.move rfl) ?_
   refine RD.p rfl rfl rfl rfl (fun w' => O.move rfl) ?_
   refine RD.alt ?_ ?_
   ·refine RD.mq rfl rfl (O.load sc5 rfl (Cs.adds [0] ((hM.bx (i := 0) rfl)) rfl)) rfl ?_
    refine RD.micall rfl rfl rfl Try.func32 bd32 rfl rfl rfl Try.ntmps32 rfl ?_
    refine sr fun Q780 hQ780 => ?_
    refine RL.eff (E.box (vs := [vI 4, vI 2, .func (.func 46) #[] #[], .func (.func 47) #[] #[], .func (.func 48) #[] #[]]) hM rfl rfl) rfl fun v w782 hv => ?_
    clear hM
    obtain ⟨g781, rfl, hM, hf⟩ := hv
    refine RL.eff (E.box (vs := [v8 s1.f_Proto, v16 s1.f_Src, v16 s1.f_Dst, v32 s1.f_Seq, v32 s1.f_Ack, v8 s1.f_Flags, v16 s1.f_Window, v16 s1.f_Urgent, .slice A2 (s1.f_Options).length c3, v8 s1.f_Type, v8 s1.f_Code, .slice A5 (s1.f_Data).length c6]) hM rfl rfl) rfl fun v w785 hv => ?_
    clear hM
    obtain ⟨g784, rfl, hM, hf⟩ := hv
    refine va rfl rfl ?_
    refine nt hQ780 ?_
    clear hQ780 Q780
    replace hM := hM.pick [0, 1, 3, 4] rfl (by decide)
    refine sr fun Q787 hQ787 => ?_
    refine RL.val (O.fldA fl62_0 (by decide) rfl) rfl ?_
    refine RL.val (O.load sc3 rfl (Cs.adds [0] ((hM.bx (i := 2) rfl)) rfl)) rfl ?_
    refine RL.val (O.fldA fl26_8 (by decide) rfl) rfl ?_
    refine RL.val (O.load sc24 rfl (Cs.adds [8] ((hM.bx (i := 3) rfl)) rfl)) rfl ?_
    refine RL.val (O.len sl24 rfl) rfl ?_
    refine RL.val (O.add rfl rfl) rfl ?_
    refine RL.val (O.fldA fl26_11 (by decide) rfl) rfl ?_
    refine RL.val (O.load sc24 rfl (Cs.adds [11] ((hM.bx (i := 3) rfl)) rfl)) rfl ?_
    refine RL.val (O.len sl24 rfl) rfl ?_
    refine RL.val (O.add rfl rfl) rfl ?_
    refine va rfl rfl ?_
    refine nt hQ787 ?_
    clear hQ787 Q787
    refine KC.ret ?_
    refine KQ.rets Try.results32 (RVs.cons (RV.tm rfl) RVs.nil) ?_
    refine ⟨.int .i64 (IntKind.i64.wrap ((IntKind.i64.wrap (4 + (s1.f_Options.length : Int))) + (s1.f_Data.length : Int))), rfl, ?_⟩
    refine obindE hF fun y788 hx789 hF => ?_
    refine RD.mcall rfl rfl trivial Try.func31 bd31 rfl rfl (c_trans_pseudo _ s1.f_Proto (IntKind.i64.wrap ((IntKind.i64.wrap (4 + (s1.f_Options.length : Int))) + (s1.f_Data.length : Int))) _ _ src8 (hM.inp hr11 Off.nil) _ _ dst12 (hM.inp hr15 Off.nil) _ hx789) fun v w790 hv => ?_
    obtain ⟨A792, c793, rfl, hN791⟩ := hv
    refine ⟨fun _ => hN791.fut, ?_⟩
    replace hM := hM.call hN791
    refine RD.p rfl rfl rfl rfl (fun w' => O.move rfl) ?_
    refine RD.p rfl rfl rfl rfl (fun w' => O.ext rfl rfl) ?_
    refine RD.p rfl rfl rfl rfl (fun w' => O.ext rfl rfl) ?_
    refine RD.p rfl rfl rfl rfl (fun w' => O.assign rfl) ?_
    refine RD.p rfl rfl rfl rfl (fun w' => O.assign rfl) ?_
    refine RD.nil ?_
    refine KQ.then_k ?_
    replace hM := hM.pick [0, 1, 4] rfl (by decide)
    exact fun a ha => ⟨A792, c793, y788.2, y788.1, ha.less (less_cons rfl (less_cons rfl (less_cons rfl (less_cons rfl less_nil)))), hM, hF⟩
   refine RD.micall rfl rfl rfl Try.func32 bd32 rfl rfl rfl Try.ntmps32 rfl ?_
   refine sr fun Q795 hQ795 => ?_
   refine RL.eff (E.box (vs := [vI 4, vI 2, .func (.func 46) #[] #[], .func (.func 47) #[] #[], .func (.func 48) #[] #[]]) hM rfl rfl) rfl fun v w797 hv => ?_
   clear hM
   obtain ⟨g796, rfl, hM, hf⟩ := hv
   refine RL.eff (E.box (vs := [v8 s1.f_Proto, v16 s1.f_Src, v16 s1.f_Dst, v32 s1.f_Seq, v32 s1.f_Ack, v8 s1.f_Flags, v16 s1.f_Window, v16 s1.f_Urgent, .slice A2 (s1.f_Options).length c3, v8 s1.f_Type, v8 s1.f_Code, .slice A5 (s1.f_Data).length c6]) hM rfl rfl) rfl fun v w800 hv => ?_
   clear hM
   obtain ⟨g799, rfl, hM, hf⟩ := hv
   refine va rfl rfl ?_
   refine nt hQ795 ?_
   clear hQ795 Q795
   replace hM := hM.pick [0, 1, 3, 4] rfl (by decide)
   refine sr fun Q802 hQ802 => ?_
   refine RL.val (O.fldA fl62_0 (by decide) rfl) rfl ?_
   refine RL.val (O.load sc3 rfl (Cs.adds [0] ((hM.bx (i := 2) rfl)) rfl)) rfl ?_
   refine RL.val (O.fldA fl26_8 (by decide) rfl) rfl ?_
   refine RL.val (O.load sc24 rfl (Cs.adds [8] ((hM.bx (i := 3) rfl)) rfl)) rfl ?_
   refine RL.val (O.len sl24 rfl) rfl ?_
   refine RL.val (O.add rfl rfl) rfl ?_
   refine RL.val (O.fldA fl26_11 (by decide) rfl) rfl ?_
   refine RL.val (O.load sc24 rfl (Cs.adds [11] ((hM.bx (i := 3) rfl)) rfl)) rfl ?_
   refine RL.val (O.len sl24 rfl) rfl ?_
   refine RL.val (O.add rfl rfl) rfl ?_
   refine va rfl rfl ?_
   refine nt hQ802 ?_
   clear hQ802 Q802
   refine KC.ret ?_
   refine KQ.rets Try.results32 (RVs.cons (RV.tm rfl) RVs.nil) ?_
   refine ⟨.int .i64 (IntKind.i64.wrap ((IntKind.i64.wrap (4 + (s1.f_Options.length : Int))) + (s1.f_Data.length : Int))), rfl, ?_⟩
   refine RD.mq rfl rfl (O.load sc5 rfl (Cs.adds [0] ((hM.bx (i := 0) rfl)) rfl)) rfl ?_
   refine obindE hF fun y803 hx804 hF => ?_
   refine RD.mcall rfl rfl trivial Try.func31 bd31 rfl rfl (c_trans_pseudo _ s1.f_Proto (IntKind.i64.wrap ((IntKind.i64.wrap (4 + (s1.f_Options.length : Int))) + (s1.f_Data.length : Int))) _ _ src8 (hM.inp hr11 Off.nil) _ _ dst12 (hM.inp hr15 Off.nil) _ hx804) fun v w805 hv => ?_
   obtain ⟨A807, c808, rfl, hN806⟩ := hv
   refine ⟨fun _ => hN806.fut, ?_⟩
   replace hM := hM.call hN806
   refine RD.p rfl rfl rfl rfl (fun w' => O.move rfl) ?_
   refine RD.p rfl rfl rfl rfl (fun w' => O.ext rfl rfl) ?_
   refine RD.p rfl rfl rfl rfl (fun w' => O.ext rfl rfl) ?_
   refine RD.p rfl rfl rfl rfl (fun w' => O.assign rfl) ?_
   refine RD.p rfl rfl rfl rfl (fun w' => O.assign rfl) ?_
   refine RD.nil ?_
   refine KQ.then_k ?_
   replace hM := hM.pick [0, 1, 4] rfl (by decide)
   exact fun a ha => ⟨A807, c808, y803.2, y803.1, ha.less (less_cons rfl (less_cons rfl (less_cons rfl (less_cons rfl less_nil)))), hM, hF⟩
  rintro a w817 ⟨A814, c815, ok812, ahead816, ha, hM, hF⟩
  refine KC.app ha ?_
  clear ha
  unfold F_trans_Put_j7 at hF
  refine KC.seqH fun Q818 hQ818 => ?_
  refine sr fun Q819 hQ819 => ?_
  refine vm rfl rfl ?_
  refine RL.val (O.not rfl) rfl ?_
  refine nt hQ819 ?_
  clear hQ819 Q819
  refine KC.cond rfl (fun hc => ?_) (fun hc => ?_)
  ·rw [if_pos hc] at hF
   refine sr fun Q820 hQ820 => ?_
   refine va rfl rfl ?_
   refine va rfl rfl ?_
   refine nt hQ820 ?_
   clear hQ820 Q820
   refine KC.ret ?_
   refine KQ.thr hQ818 ?_
   clear hQ818 Q818
   have hE := Option.some.inj hF
   clear hF
   subst hE
   replace hM := hM.nilrow 5 1
   replace hM := hM.pick [3] rfl (by decide)
   refine KQ.rets Try.results11 (RVs.cons (RV.tm rfl) (RVs.cons (RV.tm rfl) RVs.nil)) ?_
   exact ⟨_, rfl, none, 0, rfl, hM⟩
  rw [if_neg (ne_true hc)] at hF
  refine KC.skip ?_
  refine KQ.thn hQ818 ?_
  clear hQ818 Q818
  refine sr fun Q821 hQ821 => ?_
  refine RL.eff (E.alloc hM ze70) rfl fun v w823 hv => ?_
  clear hM
  obtain ⟨g822, rfl, hM, hf⟩ := hv
  refine nt hQ821 ?_
  clear hQ821 Q821
  refine sr fun Q825 hQ825 => ?_
  refine RL.val (O.fldA fl62_3 (by decide) rfl) rfl ?_
  refine RL.val (O.load sc59 rfl (Cs.adds [3] ((hM.bx (i := 1) rfl)) rfl)) rfl ?_
  refine RL.val (O.loadN (cs := [v8 s1.f_Proto, v16 s1.f_Src, v16 s1.f_Dst, v32 s1.f_Seq, v32 s1.f_Ack, v8 s1.f_Flags, v16 s1.f_Window, v16 s1.f_Urgent, .slice A2 (s1.f_Options).length c3, v8 s1.f_Type, v8 s1.f_Code, .slice A5 (s1.f_Data).length c6]) ag26 rfl (Cs.addsN [] ((hM.bx (i := 0) rfl)) rfl)) rfl ?_
  replace hM := hM.nilrow 5 1
  refine obindE hF fun y827 hx828 hF => ?_
  refine RL.callv (first := []) (captured := []) rfl Try.func47 bd47 rfl rfl (c_trans_putICMP _ _ _ (T_bits_Writer.mk ([] : List Int)) _ _ (hM.lent [3, 4] rfl (by decide)) s1 _ _ (hM.inp hr4 Off.nil) (hM.offI [3, 4] rfl hr4 (Off.nil)) _ _ (hM.inp hr7 Off.nil) (hM.offI [3, 4] rfl hr7 (Off.nil)) _ hx828) fun v w829 hv => ?_
  obtain ⟨A831, c832, rfl, hN830⟩ := hv
  replace hM := hM.callL [3, 4] [0, 1, 2] rfl rfl (by decide) rfl hN830
  refine nt hQ825 ?_
  clear hQ825 Q825
  refine sr fun Q834 hQ834 => ?_
  refine RL.val (O.fldA fl26_11 (by decide) rfl) rfl ?_
  refine RL.val (O.load sc24 rfl (Cs.adds [11] ((hM.bx (i := 0) rfl)) rfl)) rfl ?_
  refine obindE hF fun y835 hx836 hF => ?_
  refine RL.call Try.func33 bd33 rfl rfl (c_bits_Writer_Raw _ _ _ y827 _ _ (hM.lent [3, 4] rfl (by decide)) _ _ s1.f_Data (hM.inp hr7 Off.nil) (hM.offI [3, 4] rfl hr7 (Off.nil)) _ hx836) fun v w837 hv => ?_
  obtain ⟨A839, c840, rfl, hN838⟩ := hv
  replace hM := hM.callL [3, 4] [0, 1, 2] rfl rfl (by decide) rfl hN838
  refine nt hQ834 ?_
  clear hQ834 Q834
  refine sr fun Q842 hQ842 => ?_
  refine vm rfl rfl ?_
  refine obindE hF fun y843 hx844 hF => ?_
  refine RL.call Try.func35 bd35 rfl rfl (c_bits_Writer_Bytes _ _ _ y835.2 _ _ (hM.lent [3, 4] rfl (by decide)) _ hx844) fun v w845 hv => ?_
  obtain ⟨A847, c848, A850, c851, rfl, hN846⟩ := hv
  replace hM := hM.callL [3, 4] [0, 1, 2] rfl rfl (by decide) rfl hN846
  refine RL.eff (E.bslR (enc := (eI .u8)) (us := [.slice A814 (ahead816).length c815, .slice A850 (y843.1).length c851]) (xss := [ahead816, y843.1]) (Rdl.cons ((hM.rd (i := 2) rfl)) (Rdl.cons ((hM.rd (i := 5) rfl)) Rdl.nil)) hM sl88 ze24 rfl rfl rfl rfl rfl) rfl fun v w853 hv => ?_
  clear hM
  obtain ⟨A854, rfl, hM, hf, hr855⟩ := hv
  refine obindE hF fun y856 hx857 hF => ?_
  refine RL.call Try.func34 bd34 rfl rfl (c_sum_Of _ _ _ ([ahead816, y843.1]) (hr855) _ hx857) fun v w858 hv => ?_
  obtain ⟨rfl, hN859⟩ := hv
  have hr855 := hr855.fut hN859.fut
  replace hM := hM.call0 hN859
  refine va rfl rfl ?_
  refine nt hQ842 ?_
  clear hQ842 Q842
  replace hM := hM.pick [0, 1, 3, 4] rfl (by decide)
  refine KC.cut (fun a w869 => ∃ (nv868 : Int), Kn 64 [(8, .pointer (some ⟨g523, 0, none⟩)), (11, .pointer (some ⟨g822, 0, none⟩)), (12, v16 nv868)] a ∧ Mem w [] w869 [.box g523 62 [vI 4, vI 2, .func (.func 46) #[] #[], .func (.func 47) #[] #[], .func (.func 48) #[] #[]], .row A847 c848 5 1 (y843.2.f_b).length ((y843.2.f_b).flatMap (eI .u8)), .box g822 70 [.slice A847 (y843.2.f_b).length c848]] ∧ F_trans_Put_j8 y843 nv868 = some r) ?_ ?_
  ·refine KC.cut (fun a w864 => ∃ (t863 : Bool), Kn 64 [(8, .pointer (some ⟨g523, 0, none⟩)), (11, .pointer (some ⟨g822, 0, none⟩)), (12, v16 y856), (57, vB t863)] a ∧ Mem w [] w864 [.box g523 62 [vI 4, vI 2, .func (.func 46) #[] #[], .func (.func 47) #[] #[], .func (.func 48) #[] #[]], .row A847 c848 5 1 (y843.2.f_b).length ((y843.2.f_b).flatMap (eI .u8)), .box g822 70 [.slice A847 (y843.2.f_b).length c848]] ∧ F_trans_Put_j9 y843 y856 t863 = some r) ?_ ?_
   ·refine KC.region ?_
    refine vm rfl rfl ?_
    refine RL.val (O.eql rfl rfl) rfl ?_
    refine vm rfl rfl ?_
    refine RL.bcase (t := 53) rfl (fun hc => ?_) (fun hc => ?_)
    ·rw [if_pos hc] at hF
     refine RL.gval rfl rfl (O.fldA fl26_0 (by decide) rfl) rfl ?_
     refine RL.gval rfl rfl (O.load sc5 rfl (Cs.adds [0] ((hM.bx (i := 0) rfl)) rfl)) rfl ?_
     refine RL.gval rfl rfl (O.eql rfl rfl) rfl ?_
     refine RL.val (O.pickt rfl rfl) rfl ?_
     refine RL.nil ?_
     refine KQ.then_k ?_
     replace hM := hM.pick [1, 3, 2] rfl (by decide)
     exact fun a ha => ⟨(s1.f_Proto == 17), ha.less (less_cons rfl (less_cons rfl (less_cons rfl (less_cons rfl less_nil)))), hM, hF⟩
    rw [if_neg (ne_true hc)] at hF
    refine RL.brun1 4 57 false (by kernel_rfl) ?_
    refine RL.nil ?_
    refine KQ.then_k ?_
    replace hM := hM.pick [1, 3, 2] rfl (by decide)
    exact fun a ha => ⟨false, ha.less (less_cons rfl (less_cons rfl (less_cons rfl (less_cons rfl less_nil)))), hM, hF⟩
   rintro a w864 ⟨t863, ha, hM, hF⟩
   refine KC.app ha ?_
   clear ha
   unfold F_trans_Put_j9 at hF
   refine KC.cond rfl (fun hc => ?_) (fun hc => ?_)
   ·rw [if_pos hc] at hF
    refine KC.region ?_
    refine va rfl rfl ?_
    refine RL.nil ?_
    refine KQ.then_k ?_
    exact fun a ha => ⟨65535, ha.less (less_cons rfl (less_cons rfl (less_cons rfl less_nil))), hM, hF⟩
   rw [if_neg (ne_true hc)] at hF
   refine KC.skip ?_
   refine KQ.then_k ?_
   exact fun a ha => ⟨y856, ha.less (less_cons rfl (less_cons rfl (less_cons rfl less_nil))), hM, hF⟩
  rintro a w869 ⟨nv868, ha, hM, hF⟩
  refine KC.app ha ?_
  clear ha
  unfold F_trans_Put_j8 at hF
  refine sr fun Q870 hQ870 => ?_
  refine RL.val (O.fldA fl62_1 (by decide) rfl) rfl ?_
  refine RL.val (O.load sc3 rfl (Cs.adds [1] ((hM.bx (i := 0) rfl)) rfl)) rfl ?_
  refine vm rfl rfl ?_
  refine RL.val (O.conv un22 Try.underlying76 rfl) rfl ?_
  refine obindE hF fun y871 hx872 hF => ?_
  refine RL.call Try.func36 bd36 rfl rfl (c_bits_Writer_Set _ _ _ y843.2 _ _ (hM.lent [2, 1] rfl (by decide)) 2 (IntKind.u64.wrap nv868) 2 _ hx872) fun v w873 hv => ?_
  obtain ⟨A875, c876, rfl, hN874⟩ := hv
  replace hM := hM.callL [2, 1] [0] rfl rfl (by decide) rfl hN874
  refine nt hQ870 ?_
  clear hQ870 Q870
  refine sr fun Q878 hQ878 => ?_
  refine obindE hF fun y879 hx880 hF => ?_
  refine RL.call Try.func35 bd35 rfl rfl (c_bits_Writer_Bytes _ _ _ y871.2 _ _ (hM.lent [1, 2] rfl (by decide)) _ hx880) fun v w881 hv => ?_
  obtain ⟨A883, c884, A886, c887, rfl, hN882⟩ := hv
  replace hM := hM.callL [1, 2] [0] rfl rfl (by decide) rfl hN882
  refine va rfl rfl ?_
  refine va rfl rfl ?_
  refine nt hQ878 ?_
  clear hQ878 Q878
  refine KC.ret ?_
  have hE := Option.some.inj hF
  clear hF
  subst hE
  replace hM := hM.pick [3] rfl (by decide)
  refine KQ.rets Try.results11 (RVs.cons (RV.tm rfl) (RVs.cons (RV.tm rfl) RVs.nil)) ?_
  exact ⟨_, rfl, A886, c887, rfl, hM⟩
 rw [if_neg hk770] at hF
 by_cases hk889 : (s1.f_Proto == 58) = true
 ·rw [if_pos hk889] at hF
  refine RD.q rfl rfl rfl rfl (fun w' hf => O.lkT ((hM.mapAt (i := 2) rfl).fut hf) Try.underlying64 Try.underlying5 rfl rfl (lk_miss hk532 (lk_miss hk651 (lk_miss hk770 (lk_hit hk889))))) ?_
  refine RD.p rfl rfl rfl rfl (fun w' => O.move rfl) ?_
  refine RD.p rfl rfl rfl rfl (fun w' => O.ext rfl rfl) ?_
  refine RD.p rfl rfl rfl rfl (fun w' => O.ext rfl rfl) ?_
  refine RD.meffs rfl rfl rfl (E.stB (j := 1) (off := 0) (vs := [vI 4, vI 2, .func (.func 46) #[] #[], .func (.func 47) #[] #[], .func (.func 48) #[] #[]]) (cs' := [vI 4, vI 2, .func (.func 46) #[] #[], .func (.func 47) #[] #[], .func (.func 48) #[] #[]]) hM rfl sz62 rfl (adds_eq [] rfl) rfl rfl (One.all rfl) rfl rfl) fun w890 hM1 => ?_
  clear hM
  have hM := hM1
  clear hM1
  refine RD.p rfl rfl rfl rfl (fun w' => O.assign rfl) ?_
  refine RD.nil ?_
  refine KQ.thn hQ20 ?_
  clear hQ20 Q20
  refine KC.seqH fun Q891 hQ891 => ?_
  refine KC.block ?_
  refine sr fun Q892 hQ892 => ?_
  refine vm rfl rfl ?_
  refine RL.val (O.not rfl) rfl ?_
  refine va rfl rfl ?_
  refine nt hQ892 ?_
  clear hQ892 Q892
  refine KC.condF rfl ?_
  refine sr fun Q893 hQ893 => ?_
  refine RL.val (O.loadN (cs := [v8 s1.f_Proto, v16 s1.f_Src, v16 s1.f_Dst, v32 s1.f_Seq, v32 s1.f_Ack, v8 s1.f_Flags, v16 s1.f_Window, v16 s1.f_Urgent, .slice A2 (s1.f_Options).length c3, v8 s1.f_Type, v8 s1.f_Code, .slice A5 (s1.f_Data).length c6]) ag26 rfl (Cs.addsN [] ((hM.bx (i := 0) rfl)) rfl)) rfl ?_
  refine obindE hF fun y894 hx895 hF => ?_
  refine RL.call Try.func13 bd13 rfl rfl (c_trans_Right _ s1 _ _ (hM.inp hr4 Off.nil) _ _ (hM.inp hr7 Off.nil) _ hx895) fun v w896 hv => ?_
  obtain ⟨rfl, hN897⟩ := hv
  replace hM := hM.call0 hN897
  refine RL.val (O.not rfl) rfl ?_
  refine va rfl rfl ?_
  refine nt hQ893 ?_
  clear hQ893 Q893
  refine KC.cond rfl (fun hc => ?_) (fun hc => ?_)
  ·rw [if_pos hc] at hF
   refine sr fun Q898 hQ898 => ?_
   refine va rfl rfl ?_
   refine va rfl rfl ?_
   refine nt hQ898 ?_
   clear hQ898 Q898
   refine KC.ret ?_
   refine KQ.blk_r ?_
   refine KQ.thr hQ891 ?_
   clear hQ891 Q891
   have hE := Option.some.inj hF
   clear hF
   subst hE
   replace hM := hM.nilrow 5 1
   replace hM := hM.pick [3] rfl (by decide)
   refine KQ.rets Try.results11 (RVs.cons (RV.tm rfl) (RVs.cons (RV.tm rfl) RVs.nil)) ?_
   exact ⟨_, rfl, none, 0, rfl, hM⟩
  rw [if_neg (ne_true hc)] at hF
  refine KC.skip ?_
  refine KQ.blk_n ?_
  refine KQ.thn hQ891 ?_
  clear hQ891 Q891
  refine KC.cut (fun a w936 => ∃ (A933 : Option Addr) (c934 : Nat) (ok931 : Bool) (ahead935 : List Int), Kn 64 [(3, .pointer (some ⟨g17, 0, none⟩)), (8, .pointer (some ⟨g523, 0, none⟩)), (9, vB ok931), (10, .slice A933 (ahead935).length c934)] a ∧ Mem w [] w936 [.box g17 26 [v8 s1.f_Proto, v16 s1.f_Src, v16 s1.f_Dst, v32 s1.f_Seq, v32 s1.f_Ack, v8 s1.f_Flags, v16 s1.f_Window, v16 s1.f_Urgent, .slice A2 (s1.f_Options).length c3, v8 s1.f_Type, v8 s1.f_Code, .slice A5 (s1.f_Data).length c6], .box g523 62 [vI 4, vI 2, .func (.func 46) #[] #[], .func (.func 47) #[] #[], .func (.func 48) #[] #[]], .row A933 c934 5 1 (ahead935).length ((ahead935).flatMap (eI .u8))] ∧ F_trans_Put_j10 s1 ok931 ahead935 = some r) ?_ ?_
  ·replace hM := hM.drewN 1
   refine KC.draw [] [4] [1, 4, 7] [0, 5, 6, 8, 9, 10, 11, 12] (.cons 0 (.cons 2 (.cons 3 (.cons 5 (.cons 6 (.alt 1 (.ofList [4, 7, 8, 9, 10, 11, 12]) 4 (.ofList [1, 7, 8, 9, 10, 11, 12]))))))) moP (by kernel_rfl) ?_
   refine RD.p rfl rfl rfl rfl (fun w' => O.fldA fl26_0 (by decide) rfl) ?_
   refine RD.q rfl rfl rfl rfl (fun w' hf => O.loadN (cs := [vI 4, vI 2, .func (.func 46) #[] #[], .func (.func 47) #[] #[], .func (.func 48) #[] #[]]) ag62 rfl (Cs.addsN [] ((hM.bx (i := 1) rfl).fut hf) rfl)) ?_
   refine RD.q rfl rfl rfl rfl (fun w' hf => O.loadN (cs := [v8 s1.f_Proto, v16 s1.f_Src, v16 s1.f_Dst, v32 s1.f_Seq, v32 s1.f_Ack, v8 s1.f_Flags, v16 s1.f_Window, v16 s1.f_Urgent, .slice A2 (s1.f_Options).length c3, v8 s1.f_Type, v8 s1.f_Code, .slice A5 (s1.f_Data).length c6]) ag26 rfl (Cs.addsN [] ((hM.bx (i := 0) rfl).fut hf) rfl)) ?_
   refine RD.p rfl rfl rfl rfl (fun w' => O.move rfl) ?_
   refine RD.p rfl rfl rfl rfl (fun w' => O.move rfl) ?_
   refine RD.alt ?_ ?_
   ·refine RD.mq rfl rfl (O.load sc5 rfl (Cs.adds [0] ((hM.bx (i := 0) rfl)) rfl)) rfl ?_
    refine RD.micall rfl rfl rfl Try.func32 bd32 rfl rfl rfl Try.ntmps32 rfl ?_
    refine sr fun Q899 hQ899 => ?_
    refine RL.eff (E.box (vs := [vI 4, vI 2, .func (.func 46) #[] #[], .func (.func 47) #[] #[], .func (.func 48) #[] #[]]) hM rfl rfl) rfl fun v w901 hv => ?_
    clear hM
    obtain ⟨g900, rfl, hM, hf⟩ := hv
    refine RL.eff (E.box (vs := [v8 s1.f_Proto, v16 s1.f_Src, v16 s1.f_Dst, v32 s1.f_Seq, v32 s1.f_Ack, v8 s1.f_Flags, v16 s1.f_Window, v16 s1.f_Urgent, .slice A2 (s1.f_Options).length c3, v8 s1.f_Type, v8 s1.f_Code, .slice A5 (s1.f_Data).length c6]) hM rfl rfl) rfl fun v w904 hv => ?_
    clear hM
    obtain ⟨g903, rfl, hM, hf⟩ := hv
    refine va rfl rfl ?_
    refine nt hQ899 ?_
    clear hQ899 Q899
    replace hM := hM.pick [0, 1, 3, 4] rfl (by decide)
    refine sr fun Q906 hQ906 => ?_
    refine RL.val (O.fldA fl62_0 (by decide) rfl) rfl ?_
    refine RL.val (O.load sc3 rfl (Cs.adds [0] ((hM.bx (i := 2) rfl)) rfl)) rfl ?_
    refine RL.val (O.fldA fl26_8 (by decide) rfl) rfl ?_
    refine RL.val (O.load sc24 rfl (Cs.adds [8] ((hM.bx (i := 3) rfl)) rfl)) rfl ?_
    refine RL.val (O.len sl24 rfl) rfl ?_
    refine RL.val (O.add rfl rfl) rfl ?_
    refine RL.val (O.fldA fl26_11 (by decide) rfl) rfl ?_
    refine RL.val (O.load sc24 rfl (Cs.adds [11] ((hM.bx (i := 3) rfl)) rfl)) rfl ?_
    refine RL.val (O.len sl24 rfl) rfl ?_
    refine RL.val (O.add rfl rfl) rfl ?_
    refine va rfl rfl ?_
    refine nt hQ906 ?_
    clear hQ906 Q906
    refine KC.ret ?_
    refine KQ.rets Try.results32 (RVs.cons (RV.tm rfl) RVs.nil) ?_
    refine ⟨.int .i64 (IntKind.i64.wrap ((IntKind.i64.wrap (4 + (s1.f_Options.length : Int))) + (s1.f_Data.length : Int))), rfl, ?_⟩
    refine obindE hF fun y907 hx908 hF => ?_
    refine RD.mcall rfl rfl trivial Try.func31 bd31 rfl rfl (c_trans_pseudo _ s1.f_Proto (IntKind.i64.wrap ((IntKind.i64.wrap (4 + (s1.f_Options.length : Int))) + (s1.f_Data.length : Int))) _ _ src8 (hM.inp hr11 Off.nil) _ _ dst12 (hM.inp hr15 Off.nil) _ hx908) fun v w909 hv => ?_
    obtain ⟨A911, c912, rfl, hN910⟩ := hv
    refine ⟨fun _ => hN910.fut, ?_⟩
    replace hM := hM.call hN910
    refine RD.p rfl rfl rfl rfl (fun w' => O.move rfl) ?_
    refine RD.p rfl rfl rfl rfl (fun w' => O.ext rfl rfl) ?_
    refine RD.p rfl rfl rfl rfl (fun w' => O.ext rfl rfl) ?_
    refine RD.p rfl rfl rfl rfl (fun w' => O.assign rfl) ?_
    refine RD.p rfl rfl rfl rfl (fun w' => O.assign rfl) ?_
    refine RD.nil ?_
    refine KQ.then_k ?_
    replace hM := hM.pick [0, 1, 4] rfl (by decide)
    exact fun a ha => ⟨A911, c912, y907.2, y907.1, ha.less (less_cons rfl (less_cons rfl (less_cons rfl (less_cons rfl less_nil)))), hM, hF⟩
   refine RD.micall rfl rfl rfl Try.func32 bd32 rfl rfl rfl Try.ntmps32 rfl ?_
   refine sr fun Q914 hQ914 => ?_
   refine RL.eff (E.box (vs := [vI 4, vI 2, .func (.func 46) #[] #[], .func (.func 47) #[] #[], .func (.func 48) #[] #[]]) hM rfl rfl) rfl fun v w916 hv => ?_
   clear hM
   obtain ⟨g915, rfl, hM, hf⟩ := hv
   refine RL.eff (E.box (vs := [v8 s1.f_Proto, v16 s1.f_Src, v16 s1.f_Dst, v32 s1.f_Seq, v32 s1.f_Ack, v8 s1.f_Flags, v16 s1.f_Window, v16 s1.f_Urgent, .slice A2 (s1.f_Options).length c3, v8 s1.f_Type, v8 s1.f_Code, .slice A5 (s1.f_Data).length c6]) hM rfl rfl) rfl fun v w919 hv => ?_
   clear hM
   obtain ⟨g918, rfl, hM, hf⟩ := hv
   refine va rfl rfl ?_
   refine nt hQ914 ?_
   clear hQ914 Q914
   replace hM := hM.pick [0, 1, 3, 4] rfl (by decide)
   refine sr fun Q921 hQ921 => ?_
   refine RL.val (O.fldA fl62_0 (by decide) rfl) rfl ?_
   refine RL.val (O.load sc3 rfl (Cs.adds [0] ((hM.bx (i := 2) rfl)) rfl)) rfl ?_
   refine RL.val (O.fldA fl26_8 (by decide) rfl) rfl ?_
   refine RL.val (O.load sc24 rfl (Cs.adds [8] ((hM.bx (i := 3) rfl)) rfl)) rfl ?_
   refine RL.val (O.len sl24 rfl) rfl ?_
   refine RL.val (O.add rfl rfl) rfl ?_
   refine RL.val (O.fldA fl26_11 (by decide) rfl) rfl ?_
   refine RL.val (O.load sc24 rfl (Cs.adds [11] ((hM.bx (i := 3) rfl)) rfl)) rfl ?_
   refine RL.val (O.len sl24 rfl) rfl ?_
   refine RL.val (O.add rfl rfl) rfl ?_
   refine va rfl rfl ?_
   refine nt hQ921 ?_
   clear hQ921 Q921
   refine KC.ret ?_
   refine KQ.rets Try.results32 (RVs.cons (RV.tm rfl) RVs.nil) ?_
   refine ⟨.int .i64 (IntKind.i64.wrap ((IntKind.i64.wrap (4 + (s1.f_Options.length : Int))) + (s1.f_Data.length : Int))), rfl, ?_⟩
   refine RD.mq rfl rfl (O.load sc5 rfl (Cs.adds [0] ((hM.bx (i := 0) rfl)) rfl)) rfl ?_
   refine obindE hF fun y922 hx923 hF => ?_
   refine RD.mcall rfl rfl trivial Try.func31 bd31 rfl rfl (c_trans_pseudo _ s1.f_Proto (IntKind.i64.wrap ((IntKind.i64.wrap (4 + (s1.f_Options.length : Int))) + (s1.f_Data.length : Int))) _ _ src8 (hM.inp hr11 Off.nil) _ _ dst12 (hM.inp hr15 Off.nil) _ hx923) fun v w924 hv => ?_
   obtain ⟨A926, c927, rfl, hN925⟩ := hv
   refine ⟨fun _ => hN925.fut, ?_⟩
   replace hM := hM.call hN925
   refine RD.p rfl rfl rfl rfl (fun w' => O.move rfl) ?_
   refine RD.p rfl rfl rfl rfl (fun w' => O.ext rfl rfl) ?_
   refine RD.p rfl rfl rfl rfl (fun w' => O.ext rfl rfl) ?_
   refine RD.p rfl rfl rfl rfl (fun w' => O.assign rfl) ?_
   refine RD.p rfl rfl rfl rfl (fun w' => O.assign rfl) ?_
   refine RD.nil ?_
   refine KQ.then_k ?_
   replace hM := hM.pick [0, 1, 4] rfl (by decide)
   exact fun a ha => ⟨A926, c927, y922.2, y922.1, ha.less (less_cons rfl (less_cons rfl (less_cons rfl (less_cons rfl less_nil)))), hM, hF⟩
  rintro a w936 ⟨A933, c934, ok931, ahead935, ha, hM, hF⟩
  refine KC.app ha ?_
  clear ha
  unfold F_trans_Put_j10 at hF
  refine KC.seqH fun Q937 hQ937 => ?_
  refine sr fun Q938 hQ938 => ?_
  refine vm rfl rfl ?_
  refine RL.val (O.not rfl) rfl ?_
  refine nt hQ938 ?_
  clear hQ938 Q938
  refine KC.cond rfl (fun hc => ?_) (fun hc => ?_)
  ·rw [if_pos hc] at hF
   refine sr fun Q939 hQ939 => ?_
   refine va rfl rfl ?_
   refine va rfl rfl ?_
   refine nt hQ939 ?_
   clear hQ939 Q939
   refine KC.ret ?_
   refine KQ.thr hQ937 ?_
   clear hQ937 Q937
   have hE := Option.some.inj hF
   clear hF
   subst hE
   replace hM := hM.nilrow 5 1
   replace hM := hM.pick [3] rfl (by decide)
   refine KQ.rets Try.results11 (RVs.cons (RV.tm rfl) (RVs.cons (RV.tm rfl) RVs.nil)) ?_
   exact ⟨_, rfl, none, 0, rfl, hM⟩
  rw [if_neg (ne_true hc)] at hF
  refine KC.skip ?_
  refine KQ.thn hQ937 ?_
  clear hQ937 Q937
  refine sr fun Q940 hQ940 => ?_
  refine RL.eff (E.alloc hM ze70) rfl fun v w942 hv => ?_
  clear hM
  obtain ⟨g941, rfl, hM, hf⟩ := hv
  refine nt hQ940 ?_
  clear hQ940 Q940
  refine sr fun Q944 hQ944 => ?_
  refine RL.val (O.fldA fl62_3 (by decide) rfl) rfl ?_
  refine RL.val (O.load sc59 rfl (Cs.adds [3] ((hM.bx (i := 1) rfl)) rfl)) rfl ?_
  refine RL.val (O.loadN (cs := [v8 s1.f_Proto, v16 s1.f_Src, v16 s1.f_Dst, v32 s1.f_Seq, v32 s1.f_Ack, v8 s1.f_Flags, v16 s1.f_Window, v16 s1.f_Urgent, .slice A2 (s1.f_Options).length c3, v8 s1.f_Type, v8 s1.f_Code, .slice A5 (s1.f_Data).length c6]) ag26 rfl (Cs.addsN [] ((hM.bx (i := 0) rfl)) rfl)) rfl ?_
  replace hM := hM.nilrow 5 1
  refine obindE hF fun y946 hx947 hF => ?_
  refine RL.callv (first := []) (captured := []) rfl Try.func47 bd47 rfl rfl (c_trans_putICMP _ _ _ (T_bits_Writer.mk ([] : List Int)) _ _ (hM.lent [3, 4] rfl (by decide)) s1 _ _ (hM.inp hr4 Off.nil) (hM.offI [3, 4] rfl hr4 (Off.nil)) _ _ (hM.inp hr7 Off.nil) (hM.offI [3, 4] rfl hr7 (Off.nil)) _ hx947) fun v w948 hv => ?_
  obtain ⟨A950, c951, rfl, hN949⟩ := hv
  replace hM := hM.callL [3, 4] [0, 1, 2] rfl rfl (by decide) rfl hN949
  refine nt hQ944 ?_
  clear hQ944 Q944
  refine sr fun Q953 hQ953 => ?_
  refine RL.val (O.fldA fl26_11 (by decide) rfl) rfl ?_
  refine RL.val (O.load sc24 rfl (Cs.adds [11] ((hM.bx (i := 0) rfl)) rfl)) rfl ?_
  refine obindE hF fun y954 hx955 hF => ?_
  refine RL.call Try.func33 bd33 rfl rfl (c_bits_Writer_Raw _ _ _ y946 _ _ (hM.lent [3, 4] rfl (by decide)) _ _ s1.f_Data (hM.inp hr7 Off.nil) (hM.offI [3, 4] rfl hr7 (Off.nil)) _ hx955) fun v w956 hv => ?_
  obtain ⟨A958, c959, rfl, hN957⟩ := hv
  replace hM := hM.callL [3, 4] [0, 1, 2] rfl rfl (by decide) rfl hN957
  refine nt hQ953 ?_
  clear hQ953 Q953
  refine sr fun Q961 hQ961 => ?_
  refine vm rfl rfl ?_
  refine obindE hF fun y962 hx963 hF => ?_
  refine RL.call Try.func35 bd35 rfl rfl (c_bits_Writer_Bytes _ _ _ y954.2 _ _ (hM.lent [3, 4] rfl (by decide)) _ hx963) fun v w964 hv => ?_
  obtain ⟨A966, c967, A969, c970, rfl, hN965⟩ := hv
  replace hM := hM.callL [3, 4] [0, 1, 2] rfl rfl (by decide) rfl hN965
  refine RL.eff (E.bslR (enc := (eI .u8)) (us := [.slice A933 (ahead935).length c934, .slice A969 (y962.1).length c970]) (xss := [ahead935, y962.1]) (Rdl.cons ((hM.rd (i := 2) rfl)) (Rdl.cons ((hM.rd (i := 5) rfl)) Rdl.nil)) hM sl88 ze24 rfl rfl rfl rfl rfl) rfl fun v w972 hv => ?_
  clear hM
  obtain ⟨A973, rfl, hM, hf, hr974⟩ := hv
  refine obindE hF fun y975 hx976 hF => ?_
  refine RL.call Try.func34 bd34 rfl rfl (c_sum_Of _ _ _ ([ahead935, y962.1]) (hr974) _ hx976) fun v w977 hv => ?_
  obtain ⟨rfl, hN978⟩ := hv
  have hr974 := hr974.fut hN978.fut
  replace hM := hM.call0 hN978
  refine va rfl rfl ?_
  refine nt hQ961 ?_
  clear hQ961 Q961
  replace hM := hM.pick [0, 1, 3, 4] rfl (by decide)
  refine KC.cut (fun a w988 => ∃ (nv987 : Int), Kn 64 [(8, .pointer (some ⟨g523, 0, none⟩)), (11, .pointer (some ⟨g941, 0, none⟩)), (12, v16 nv987)] a ∧ Mem w [] w988 [.box g523 62 [vI 4, vI 2, .func (.func 46) #[] #[], .func (.func 47) #[] #[], .func (.func 48) #[] #[]], .row A966 c967 5 1 (y962.2.f_b).length ((y962.2.f_b).flatMap (eI .u8)), .box g941 70 [.slice A966 (y962.2.f_b).length c967]] ∧ F_trans_Put_j11 y962 nv987 = some r) ?_ ?_
  ·refine KC.cut (fun a w983 => ∃ (t982 : Bool), Kn 64 [(8, .pointer (some ⟨g523, 0, none⟩)), (11, .pointer (some ⟨g941, 0, none⟩)), (12, v16 y975), (57, vB t982)] a ∧ Mem w [] w983 [.box g523 62 [vI 4, vI 2, .func (.func 46) #[] #[], .func (.func 47) #[] #[], .func (.func 48) #[] #[]], .row A966 c967 5 1 (y962.2.f_b).length ((y962.2.f_b).flatMap (eI .u8)), .box g941 70 [.slice A966 (y962.2.f_b).length c967]] ∧ F_trans_Put_j12 y962 y975 t982 = some r) ?_ ?_
   ·refine KC.region ?_
    refine vm rfl rfl ?_
    refine RL.val (O.eql rfl rfl) rfl ?_
    refine vm rfl rfl ?_
    refine RL.bcase (t := 53) rfl (fun hc => ?_) (fun hc => ?_)
    ·rw [if_pos hc] at hF
     refine RL.gval rfl rfl (O.fldA fl26_0 (by decide) rfl) rfl ?_
     refine RL.gval rfl rfl (O.load sc5 rfl (Cs.adds [0] ((hM.bx (i := 0) rfl)) rfl)) rfl ?_
     refine RL.gval rfl rfl (O.eql rfl rfl) rfl ?_
     refine RL.val (O.pickt rfl rfl) rfl ?_
     refine RL.nil ?_
     refine KQ.then_k ?_
     replace hM := hM.pick [1, 3, 2] rfl (by decide)
     exact fun a ha => ⟨(s1.f_Proto == 17), ha.less (less_cons rfl (less_cons rfl (less_cons rfl (less_cons rfl less_nil)))), hM, hF⟩
    rw [if_neg (ne_true hc)] at hF
    refine RL.brun1 4 57 false (by kernel_rfl) ?_
    refine RL.nil ?_
    refine KQ.then_k ?_
    replace hM := hM.pick [1, 3, 2] rfl (by decide)
    exact fun a ha => ⟨false, ha.less (less_cons rfl (less_cons rfl (less_cons rfl (less_cons rfl less_nil)))), hM, hF⟩
   rintro a w983 ⟨t982, ha, hM, hF⟩
   refine KC.app ha ?_
   clear ha
   unfold F_trans_Put_j12 at hF
   refine KC.cond rfl (fun hc => ?_) (fun hc => ?_)
   ·rw [if_pos hc] at hF
    refine KC.region ?_
    refine va rfl rfl ?_
    refine RL.nil ?_
    refine KQ.then_k ?_
    exact fun a ha => ⟨65535, ha.less (less_cons rfl (less_cons rfl (less_cons rfl less_nil))), hM, hF⟩
   rw [if_neg (ne_true hc)] at hF
   refine KC.skip ?_
   refine KQ.then_k ?_
   exact fun a ha => ⟨y975, ha.less (less_cons rfl (less_cons rfl (less_cons rfl less_nil))), hM, hF⟩
  rintro a w988 ⟨nv987, ha, hM, hF⟩
  refine KC.app ha ?_
  clear ha
  unfold F_trans_Put_j11 at hF
  refine sr fun Q989 hQ989 => ?_
  refine RL.val (O.fldA fl62_1 (by decide) rfl) rfl ?_
  refine RL.val (O.load sc3 rfl (Cs.adds [1] ((hM.bx (i := 0) rfl)) rfl)) rfl ?_
  refine vm rfl rfl ?_
  refine RL.val (O.conv un22 Try.underlying76 rfl) rfl ?_
  refine obindE hF fun y990 hx991 hF => ?_
  refine RL.call Try.func36 bd36 rfl rfl (c_bits_Writer_Set _ _ _ y962.2 _ _ (hM.lent [2, 1] rfl (by decide)) 2 (IntKind.u64.wrap nv987) 2 _ hx991) fun v w992 hv => ?_
  obtain ⟨A994, c995, rfl, hN993⟩ := hv
  replace hM := hM.callL [2, 1] [0] rfl rfl (by decide) rfl hN993
  refine nt hQ989 ?_
  clear hQ989 Q989
  refine sr fun Q997 hQ997 => ?_
  refine obindE hF fun y998 hx999 hF => ?_
  refine RL.call Try.func35 bd35 rfl rfl (c_bits_Writer_Bytes _ _ _ y990.2 _ _ (hM.lent [1, 2] rfl (by decide)) _ hx999) fun v w1000 hv => ?_
  obtain ⟨A1002, c1003, A1005, c1006, rfl, hN1001⟩ := hv
  replace hM := hM.callL [1, 2] [0] rfl rfl (by decide) rfl hN1001
  refine va rfl rfl ?_
  refine va rfl rfl ?_
  refine nt hQ997 ?_
  clear hQ997 Q997
  refine KC.ret ?_
  have hE := Option.some.inj hF
  clear hF
  subst hE
  replace hM := hM.pick [3] rfl (by decide)
  refine KQ.rets Try.results11 (RVs.cons (RV.tm rfl) (RVs.cons (RV.tm rfl) RVs.nil)) ?_
  exact ⟨_, rfl, A1005, c1006, rfl, hM⟩
 rw [if_neg hk889] at hF
 refine RD.q rfl rfl rfl rfl (fun w' hf => O.lkF (cs := [vI 0, vI 0, Value.nilFunc, Value.nilFunc, Value.nilFunc]) ((hM.mapAt (i := 2) rfl).fut hf) Try.underlying64 Try.underlying5 (by kernel_rfl) rfl rfl (lk_miss hk532 (lk_miss hk651 (lk_miss hk770 (lk_miss hk889 (lk_nil)))))) ?_
 refine RD.p rfl rfl rfl rfl (fun w' => O.move rfl) ?_
 refine RD.p rfl rfl rfl rfl (fun w' => O.ext rfl rfl) ?_
 refine RD.p rfl rfl rfl rfl (fun w' => O.ext rfl rfl) ?_
 refine RD.meffs rfl rfl rfl (E.stB (j := 1) (off := 0) (vs := [vI 0, vI 0, Value.nilFunc, Value.nilFunc, Value.nilFunc]) (cs' := [vI 0, vI 0, Value.nilFunc, Value.nilFunc, Value.nilFunc]) hM rfl sz62 rfl (adds_eq [] rfl) rfl rfl (One.all rfl) rfl rfl) fun w1009 hM1 => ?_
 clear hM
 have hM := hM1
 clear hM1
 refine RD.p rfl rfl rfl rfl (fun w' => O.assign rfl) ?_
 refine RD.nil ?_
 refine KQ.thn hQ20 ?_
 clear hQ20 Q20
 refine KC.seqH fun Q1010 hQ1010 => ?_
 refine KC.block ?_
 refine sr fun Q1011 hQ1011 => ?_
 refine vm rfl rfl ?_
 refine RL.val (O.not rfl) rfl ?_
 refine va rfl rfl ?_
 refine nt hQ1011 ?_
 clear hQ1011 Q1011
 refine KC.condT rfl ?_
 refine sr fun Q1012 hQ1012 => ?_
 refine va rfl rfl ?_
 refine va rfl rfl ?_
 refine nt hQ1012 ?_
 clear hQ1012 Q1012
 refine KC.ret ?_
 refine KQ.blk_r ?_
 refine KQ.thr hQ1010 ?_
 clear hQ1010 Q1010
 have hE := Option.some.inj hF
 clear hF
 subst hE
 replace hM := hM.nilrow 5 1
 replace hM := hM.pick [3] rfl (by decide)
 refine KQ.rets Try.results11 (RVs.cons (RV.tm rfl) (RVs.cons (RV.tm rfl) RVs.nil)) ?_
 exact ⟨_, rfl, none, 0, rfl, hM⟩
end Go.Proofs.Ytcinagdkkclapaa
