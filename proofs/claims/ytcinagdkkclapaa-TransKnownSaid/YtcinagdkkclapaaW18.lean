/- Printed by a program of this claim: each call returns what the plain function of its name gives. -/
import Derived.Test.YtcinagdkkclapaaW1
import Derived.Test.YtcinagdkkclapaaW5
import Derived.Test.YtcinagdkkclapaaW10
import Derived.Test.YtcinagdkkclapaaW17
set_option linter.unusedVariables false
namespace Go.Proofs.Ytcinagdkkclapaa
open Go Go.Ox Go.RowKit
set_option maxRecDepth 100000 in
set_option maxHeartbeats 40000000 in
theorem c_trans_Sound (w : World) (proto1 : Int) (A3 : Option Addr) (c4 : Nat) (b2 : List Int) (hr5 : Rd w A3 c4 1 b2.length (b2.flatMap (eI .u8))) (A7 : Option Addr) (c8 : Nat) (src6 : List Int) (hr9 : Rd w A7 c8 1 src6.length (src6.flatMap (eI .u8))) (A11 : Option Addr) (c12 : Nat) (dst10 : List Int) (hr13 : Rd w A11 c12 1 dst10.length (dst10.flatMap (eI .u8))) (r : Bool) (hF : F_trans_Sound proto1 b2 src6 dst10 = some r) :
  CallsR Try.prog 20 [v8 proto1, .slice A3 (b2).length c4, .slice A7 (src6).length c8, .slice A11 (dst10).length c12] w (fun v w' => v = vB r ∧ Mem w [] w' []) := by
 refine calls_KC Try.func20 rfl Try.ntmps20 rfl ?_
 have hM := Mem.init w
 unfold F_trans_Sound at hF
 refine sr fun Q14 hQ14 => ?_
 refine va rfl rfl ?_
 refine nt hQ14 ?_
 clear hQ14 Q14
 refine sr fun Q15 hQ15 => ?_
 refine vm rfl rfl ?_
 refine vm rfl rfl ?_
 refine obindE hF fun y16 hx17 hF => ?_
 refine RL.call Try.func19 bd19 rfl rfl (c_trans_Parse _ proto1 _ _ b2 (hM.inp hr5 Off.nil) _ hx17) fun v w18 hv => ?_
 obtain ⟨A20, c21, A23, c24, rfl, hN19⟩ := hv
 replace hM := hM.call hN19
 refine vm rfl rfl ?_
 refine RL.val (O.ext rfl rfl) rfl ?_
 refine RL.val (O.ext rfl rfl) rfl ?_
 refine RL.eff (E.alloc hM ze26) rfl fun v w27 hv => ?_
 clear hM
 obtain ⟨g26, rfl, hM, hf⟩ := hv
 refine RL.effs (E.stB (j := 2) (off := 0) (vs := [v8 y16.1.f_Proto, v16 y16.1.f_Src, v16 y16.1.f_Dst, v32 y16.1.f_Seq, v32 y16.1.f_Ack, v8 y16.1.f_Flags, v16 y16.1.f_Window, v16 y16.1.f_Urgent, .slice A20 (y16.1.f_Options).length c21, v8 y16.1.f_Type, v8 y16.1.f_Code, .slice A23 (y16.1.f_Data).length c24]) (cs' := [v8 y16.1.f_Proto, v16 y16.1.f_Src, v16 y16.1.f_Dst, v32 y16.1.f_Seq, v32 y16.1.f_Ack, v8 y16.1.f_Flags, v16 y16.1.f_Window, v16 y16.1.f_Urgent, .slice A20 (y16.1.f_Options).length c21, v8 y16.1.f_Type, v8 y16.1.f_Code, .slice A23 (y16.1.f_Data).length c24]) hM rfl sz26 rfl (adds_eq [] rfl) rfl rfl (One.all rfl) rfl rfl) fun w29 hM1 => ?_
 clear hM
 have hM := hM1
 clear hM1
 refine va rfl rfl ?_
 refine nt hQ15 ?_
 clear hQ15 Q15
 refine KC.seqH fun Q30 hQ30 => ?_
 refine sr fun Q31 hQ31 => ?_
 refine vm rfl rfl ?_
 refine RL.val (O.neq rfl rfl) rfl ?_
 refine nt hQ31 ?_
 clear hQ31 Q31
 refine KC.cond rfl (fun hc => ?_) (fun hc => ?_)
 ·rw [if_pos hc] at hF
  refine sr fun Q32 hQ32 => ?_
  refine va rfl rfl ?_
  refine nt hQ32 ?_
  clear hQ32 Q32
  refine KC.ret ?_
  refine KQ.thr hQ30 ?_
  clear hQ30 Q30
  have hE := Option.some.inj hF
  clear hF
  subst hE
  replace hM := hM.pick [] rfl (by decide)
  refine KQ.rets Try.results20 (RVs.cons (RV.tm rfl) RVs.nil) ?_
  exact ⟨_, rfl, rfl, hM⟩
 rw [if_neg (ne_true hc)] at hF
 refine KC.skip ?_
 refine KQ.thn hQ30 ?_
 clear hQ30 Q30
 refine KC.seqH fun Q33 hQ33 => ?_
 replace hM := hM.drewN 1
 refine KC.draw [] [5] [1, 5] [0, 2, 6, 7] (.ofList [0, 2, 4, 1, 3, 5, 6, 7]) moP (by kernel_rfl) ?_
 refine RD.p rfl rfl rfl rfl (fun w' => O.move rfl) ?_
 refine RD.p rfl rfl rfl rfl (fun w' => O.move rfl) ?_
 refine RD.q rfl rfl rfl rfl (fun w' hf => O.loadN (cs := [v8 y16.1.f_Proto, v16 y16.1.f_Src, v16 y16.1.f_Dst, v32 y16.1.f_Seq, v32 y16.1.f_Ack, v8 y16.1.f_Flags, v16 y16.1.f_Window, v16 y16.1.f_Urgent, .slice A20 (y16.1.f_Options).length c21, v8 y16.1.f_Type, v8 y16.1.f_Code, .slice A23 (y16.1.f_Data).length c24]) ag26 rfl (Cs.addsN [] ((hM.bx (i := 2) rfl).fut hf) rfl)) ?_
 refine obindE hF fun y34 hx35 hF => ?_
 refine RD.mcall rfl rfl trivial Try.func30 bd30 rfl rfl (c_trans_protocols _ _ hx35) fun v w36 hv => ?_
 obtain ⟨g38, rfl, hN37⟩ := hv
 refine ⟨fun _ => hN37.fut, ?_⟩
 replace hM := hM.call hN37
 by_cases hk40 : (proto1 == 6) = true
 ·rw [if_pos hk40] at hF
  refine RD.q rfl rfl rfl rfl (fun w' hf => O.lkT1 ((hM.mapAt (i := 3) rfl).fut hf) Try.underlying64 Try.underlying5 rfl rfl (lk_hit hk40)) ?_
  refine RD.micall rfl rfl rfl Try.func32 bd32 rfl rfl rfl Try.ntmps32 rfl ?_
  refine sr fun Q41 hQ41 => ?_
  refine RL.eff (E.box (vs := [vI 20, vI 16, .func (.func 49) #[] #[], .func (.func 50) #[] #[], .func (.func 51) #[] #[]]) hM rfl rfl) rfl fun v w43 hv => ?_
  clear hM
  obtain ⟨g42, rfl, hM, hf⟩ := hv
  refine RL.eff (E.box (vs := [v8 y16.1.f_Proto, v16 y16.1.f_Src, v16 y16.1.f_Dst, v32 y16.1.f_Seq, v32 y16.1.f_Ack, v8 y16.1.f_Flags, v16 y16.1.f_Window, v16 y16.1.f_Urgent, .slice A20 (y16.1.f_Options).length c21, v8 y16.1.f_Type, v8 y16.1.f_Code, .slice A23 (y16.1.f_Data).length c24]) hM rfl rfl) rfl fun v w46 hv => ?_
  clear hM
  obtain ⟨g45, rfl, hM, hf⟩ := hv
  refine va rfl rfl ?_
  refine nt hQ41 ?_
  clear hQ41 Q41
  refine sr fun Q48 hQ48 => ?_
  refine RL.val (O.fldA fl62_0 (by decide) rfl) rfl ?_
  refine RL.val (O.load sc3 rfl (Cs.adds [0] ((hM.bx (i := 4) rfl)) rfl)) rfl ?_
  refine RL.val (O.fldA fl26_8 (by decide) rfl) rfl ?_
  refine RL.val (O.load sc24 rfl (Cs.adds [8] ((hM.bx (i := 5) rfl)) rfl)) rfl ?_
  refine RL.val (O.len sl24 rfl) rfl ?_
  refine RL.val (O.add rfl rfl) rfl ?_
  refine RL.val (O.fldA fl26_11 (by decide) rfl) rfl ?_
  refine RL.val (O.load sc24 rfl (Cs.adds [11] ((hM.bx (i := 5) rfl)) rfl)) rfl ?_
  refine RL.val (O.len sl24 rfl) rfl ?_
  refine RL.val (O.add rfl rfl) rfl ?_
  refine va rfl rfl ?_
  refine nt hQ48 ?_
  clear hQ48 Q48
  refine KC.ret ?_
  refine KQ.rets Try.results32 (RVs.cons (RV.tm rfl) RVs.nil) ?_
  refine ⟨.int .i64 (IntKind.i64.wrap ((IntKind.i64.wrap (20 + (y16.1.f_Options.length : Int))) + (y16.1.f_Data.length : Int))), rfl, ?_⟩
  refine obindE hF fun cut49 hy50 hF => ?_
  refine cutNE A3 c4 (Int.toNat 0) 1 fun A51 c52 eA54 ec55 => ?_
  have hr53 := Rd.cutT (enc := (eI .u8)) (s := 1) (fun _ => rfl) hr5 hy50 (m := c4) (by have := hr5.cap; have := (gcut_some hy50).2.2.1; omega) (Nat.le_refl _)
  rw [← eA54, ← ec55] at hr53
  refine RD.p (v := .slice A51 (cut49).length c52) rfl rfl rfl rfl (fun w' => (by rw [eA54, ec55]; exact O.cuthT sl24 (hM.inp hr5 Off.nil) hy50 rfl rfl)) ?_
  refine RD.p rfl rfl rfl rfl (fun w' => O.assign rfl) ?_
  refine RD.nil ?_
  refine KQ.thn hQ33 ?_
  clear hQ33 Q33
  replace hM := hM.pick [] rfl (by decide)
  refine sr fun Q56 hQ56 => ?_
  refine vm rfl rfl ?_
  refine vm rfl rfl ?_
  refine RL.val (O.len sl24 rfl) rfl ?_
  refine vm rfl rfl ?_
  refine vm rfl rfl ?_
  refine obindE hF fun y57 hx58 hF => ?_
  refine RL.call Try.func31 bd31 rfl rfl (c_trans_pseudo _ proto1 (cut49.length : Int) _ _ src6 (hM.inp hr9 Off.nil) _ _ dst10 (hM.inp hr13 Off.nil) _ hx58) fun v w59 hv => ?_
  obtain ⟨A61, c62, rfl, hN60⟩ := hv
  replace hM := hM.call hN60
  refine vm rfl rfl ?_
  refine RL.val (O.ext rfl rfl) rfl ?_
  refine RL.val (O.ext rfl rfl) rfl ?_
  refine va rfl rfl ?_
  refine va rfl rfl ?_
  refine nt hQ56 ?_
  clear hQ56 Q56
  refine KC.seqH fun Q64 hQ64 => ?_
  refine sr fun Q65 hQ65 => ?_
  refine vm rfl rfl ?_
  refine RL.val (O.not rfl) rfl ?_
  refine nt hQ65 ?_
  clear hQ65 Q65
  refine KC.cond rfl (fun hc => ?_) (fun hc => ?_)
  ·rw [if_pos hc] at hF
   refine sr fun Q66 hQ66 => ?_
   refine va rfl rfl ?_
   refine nt hQ66 ?_
   clear hQ66 Q66
   refine KC.ret ?_
   refine KQ.thr hQ64 ?_
   clear hQ64 Q64
   have hE := Option.some.inj hF
   clear hF
   subst hE
   replace hM := hM.pick [] rfl (by decide)
   refine KQ.rets Try.results20 (RVs.cons (RV.tm rfl) RVs.nil) ?_
   exact ⟨_, rfl, rfl, hM⟩
  rw [if_neg (ne_true hc)] at hF
  refine KC.skip ?_
  refine KQ.thn hQ64 ?_
  clear hQ64 Q64
  refine KC.cut (fun a w75 => ∃ (none74 : Bool), Kn 66 [(1, .slice A51 (cut49).length c52), (11, .slice A61 (y57.1).length c62), (13, vB none74)] a ∧ Mem w [] w75 [.row A61 c62 5 1 (y57.1).length ((y57.1).flatMap (eI .u8))] ∧ F_trans_Sound_j1 cut49 y57 none74 = some r) ?_ ?_
  ·refine KC.region ?_
   refine vm rfl rfl ?_
   refine RL.val (O.eql rfl rfl) rfl ?_
   refine vm rfl rfl ?_
   refine RL.bcase (t := 42) rfl (fun hc => ?_) (fun hc => ?_)
   ·rw [if_pos hc] at hF
    refine RL.gval rfl rfl (O.move rfl) rfl ?_
    refine RL.gval rfl rfl (O.len sl24 rfl) rfl ?_
    refine RL.gval rfl rfl (O.eql rfl rfl) rfl ?_
    refine RL.val (O.pickt rfl rfl) rfl ?_
    refine vm rfl rfl ?_
    refine RL.bcase (t := 47) rfl (fun hc => ?_) (fun hc => ?_)
    ·rw [if_pos hc] at hF
     refine RL.gval rfl rfl (O.move rfl) rfl ?_
     refine obindE hF fun xv69 hx68 hF => ?_
     have hA67 := Rd.atN (f := (eI .u8)) (s := 1) (fun _ => rfl) (by decide) (hM.inp hr53 Off.nil) hx68
     refine RL.gval rfl rfl (O.idxA sl24 (hA67) rfl rfl) rfl ?_
     refine RL.gval rfl rfl (O.load sc5 rfl (hA67).cells.at0) rfl ?_
     refine RL.gval rfl rfl (O.eql rfl rfl) rfl ?_
     refine RL.val (O.pickt rfl rfl) rfl ?_
     refine vm rfl rfl ?_
     refine RL.bcase (t := 53) rfl (fun hc => ?_) (fun hc => ?_)
     ·rw [if_pos hc] at hF
      refine RL.gval rfl rfl (O.move rfl) rfl ?_
      refine obindE hF fun xv72 hx71 hF => ?_
      have hA70 := Rd.atN (f := (eI .u8)) (s := 1) (fun _ => rfl) (by decide) (hM.inp hr53 Off.nil) hx71
      refine RL.gval rfl rfl (O.idxA sl24 (hA70) rfl rfl) rfl ?_
      refine RL.gval rfl rfl (O.load sc5 rfl (hA70).cells.at0) rfl ?_
      refine RL.gval rfl rfl (O.eql rfl rfl) rfl ?_
      refine RL.val (O.pickt rfl rfl) rfl ?_
      refine va rfl rfl ?_
      refine RL.nil ?_
      refine KQ.then_k ?_
      exact fun a ha => ⟨(xv72 == 0), ha.less (less_cons rfl (less_cons rfl (less_cons rfl less_nil))), hM, hF⟩
     rw [if_neg (ne_true hc)] at hF
     refine RL.brun1 5 58 false (by kernel_rfl) ?_
     refine va rfl rfl ?_
     refine RL.nil ?_
     refine KQ.then_k ?_
     exact fun a ha => ⟨false, ha.less (less_cons rfl (less_cons rfl (less_cons rfl less_nil))), hM, hF⟩
    rw [if_neg (ne_true hc)] at hF
    refine RL.brun1 11 58 false (by kernel_rfl) ?_
    refine va rfl rfl ?_
    refine RL.nil ?_
    refine KQ.then_k ?_
    exact fun a ha => ⟨false, ha.less (less_cons rfl (less_cons rfl (less_cons rfl less_nil))), hM, hF⟩
   rw [if_neg (ne_true hc)] at hF
   refine RL.brun1 16 58 false (by kernel_rfl) ?_
   refine va rfl rfl ?_
   refine RL.nil ?_
   refine KQ.then_k ?_
   exact fun a ha => ⟨false, ha.less (less_cons rfl (less_cons rfl (less_cons rfl less_nil))), hM, hF⟩
  rintro a w75 ⟨none74, ha, hM, hF⟩
  refine KC.app ha ?_
  clear ha
  unfold F_trans_Sound_j1 at hF
  refine KC.cut (fun a w84 => ∃ (t83 : Bool), Kn 66 [(8, vB t83)] a ∧ Mem w [] w84 [] ∧ F_trans_Sound_j2 t83 = some r) ?_ ?_
  ·refine KC.region ?_
   refine vm rfl rfl ?_
   refine vm rfl rfl ?_
   refine RL.bcase (t := 60) rfl (fun hc => ?_) (fun hc => ?_)
   ·rw [if_pos hc] at hF
    refine RL.brun1 5 65 true (by kernel_rfl) ?_
    refine va rfl rfl ?_
    refine RL.nil ?_
    refine KQ.then_k ?_
    replace hM := hM.pick [] rfl (by decide)
    exact fun a ha => ⟨true, ha.less (less_cons rfl less_nil), hM, hF⟩
   rw [if_neg (ne_true hc)] at hF
   refine RL.gval rfl rfl (O.move rfl) rfl ?_
   refine RL.gval rfl rfl (O.move rfl) rfl ?_
   refine RL.geff rfl rfl (E.bslR (enc := (eI .u8)) (us := [.slice A61 (y57.1).length c62, .slice A51 (cut49).length c52]) (xss := [y57.1, cut49]) (Rdl.cons ((hM.rd (i := 0) rfl)) (Rdl.cons ((hM.inp hr53 Off.nil)) Rdl.nil)) hM sl88 ze24 rfl rfl rfl rfl rfl) rfl fun v w76 hv => ?_
   clear hM
   obtain ⟨A77, rfl, hM, hf, hr78⟩ := hv
   refine obindE hF fun y79 hx80 hF => ?_
   refine RL.gcall rfl rfl Try.func40 bd40 rfl rfl (c_sum_Whole _ _ _ ([y57.1, cut49]) (hr78) _ hx80) fun v w81 hv => ?_
   obtain ⟨rfl, hN82⟩ := hv
   have hr78 := hr78.fut hN82.fut
   replace hM := hM.call0 hN82
   refine RL.val (O.pickf rfl rfl) rfl ?_
   refine va rfl rfl ?_
   refine RL.nil ?_
   refine KQ.then_k ?_
   replace hM := hM.pick [] rfl (by decide)
   exact fun a ha => ⟨y79, ha.less (less_cons rfl less_nil), hM, hF⟩
  rintro a w84 ⟨t83, ha, hM, hF⟩
  refine KC.app ha ?_
  clear ha
  unfold F_trans_Sound_j2 at hF
  refine KC.ret ?_
  have hE := Option.some.inj hF
  clear hF
  subst hE
  refine KQ.rets Try.results20 (RVs.cons (RV.tm rfl) RVs.nil) ?_
  exact ⟨_, rfl, rfl, hM⟩
 rw [if_neg hk40] at hF
 by_cases hk85 : (proto1 == 17) = true
 ·rw [if_pos hk85] at hF
  refine RD.q rfl rfl rfl rfl (fun w' hf => O.lkT1 ((hM.mapAt (i := 3) rfl).fut hf) Try.underlying64 Try.underlying5 rfl rfl (lk_miss hk40 (lk_hit hk85))) ?_
  refine RD.micall rfl rfl rfl Try.func32 bd32 rfl rfl rfl Try.ntmps32 rfl ?_
  refine sr fun Q86 hQ86 => ?_
  refine RL.eff (E.box (vs := [vI 8, vI 6, .func (.func 52) #[] #[], .func (.func 53) #[] #[], .func (.func 54) #[] #[]]) hM rfl rfl) rfl fun v w88 hv => ?_
  clear hM
  obtain ⟨g87, rfl, hM, hf⟩ := hv
  refine RL.eff (E.box (vs := [v8 y16.1.f_Proto, v16 y16.1.f_Src, v16 y16.1.f_Dst, v32 y16.1.f_Seq, v32 y16.1.f_Ack, v8 y16.1.f_Flags, v16 y16.1.f_Window, v16 y16.1.f_Urgent, .slice A20 (y16.1.f_Options).length c21, v8 y16.1.f_Type, v8 y16.1.f_Code, .slice A23 (y16.1.f_Data).length c24]) hM rfl rfl) rfl fun v w91 hv => ?_
  clear hM
  obtain ⟨g90, rfl, hM, hf⟩ := hv
  refine va rfl rfl ?_
  refine nt hQ86 ?_
  clear hQ86 Q86
  refine sr fun Q93 hQ93 => ?_
  refine RL.val (O.fldA fl62_0 (by decide) rfl) rfl ?_
  refine RL.val (O.load sc3 rfl (Cs.adds [0] ((hM.bx (i := 4) rfl)) rfl)) rfl ?_
  refine RL.val (O.fldA fl26_8 (by decide) rfl) rfl ?_
  refine RL.val (O.load sc24 rfl (Cs.adds [8] ((hM.bx (i := 5) rfl)) rfl)) rfl ?_
  refine RL.val (O.len sl24 rfl) rfl ?_
  refine RL.val (O.add rfl rfl) rfl ?_
  refine RL.val (O.fldA fl26_11 (by decide) rfl) rfl ?_
  refine RL.val (O.load sc24 rfl (Cs.adds [11] ((hM.bx (i := 5) rfl)) rfl)) rfl ?_
  refine RL.val (O.len sl24 rfl) rfl ?_
  refine RL.val (O.add rfl rfl) rfl ?_
  refine va rfl rfl ?_
  refine nt hQ93 ?_
  clear hQ93 Q93
  refine KC.ret ?_
  refine KQ.rets Try.results32 (RVs.cons (RV.tm rfl) RVs.nil) ?_
  refine ⟨.int .i64 (IntKind.i64.wrap ((IntKind.i64.wrap (8 + (y16.1.f_Options.length : Int))) + (y16.1.f_Data.length : Int))), rfl, ?_⟩
  refine obindE hF fun cut94 hy95 hF => ?_
  refine cutNE A3 c4 (Int.toNat 0) 1 fun A96 c97 eA99 ec100 => ?_
  have hr98 := Rd.cutT (enc := (eI .u8)) (s := 1) (fun _ => rfl) hr5 hy95 (m := c4) (by have := hr5.cap; have := (gcut_some hy95).2.2.1; omega) (Nat.le_refl _)
  rw [← eA99, ← ec100] at hr98
  refine RD.p (v := .slice A96 (cut94).length c97) rfl rfl rfl rfl (fun w' => (by rw [eA99, ec100]; exact O.cuthT sl24 (hM.inp hr5 Off.nil) hy95 rfl rfl)) ?_
  refine RD.p rfl rfl rfl rfl (fun w' => O.assign rfl) ?_
  refine RD.nil ?_
  refine KQ.thn hQ33 ?_
  clear hQ33 Q33
  replace hM := hM.pick [] rfl (by decide)
  refine sr fun Q101 hQ101 => ?_
  refine vm rfl rfl ?_
  refine vm rfl rfl ?_
  refine RL.val (O.len sl24 rfl) rfl ?_
  refine vm rfl rfl ?_
  refine vm rfl rfl ?_
  refine obindE hF fun y102 hx103 hF => ?_
  refine RL.call Try.func31 bd31 rfl rfl (c_trans_pseudo _ proto1 (cut94.length : Int) _ _ src6 (hM.inp hr9 Off.nil) _ _ dst10 (hM.inp hr13 Off.nil) _ hx103) fun v w104 hv => ?_
  obtain ⟨A106, c107, rfl, hN105⟩ := hv
  replace hM := hM.call hN105
  refine vm rfl rfl ?_
  refine RL.val (O.ext rfl rfl) rfl ?_
  refine RL.val (O.ext rfl rfl) rfl ?_
  refine va rfl rfl ?_
  refine va rfl rfl ?_
  refine nt hQ101 ?_
  clear hQ101 Q101
  refine KC.seqH fun Q109 hQ109 => ?_
  refine sr fun Q110 hQ110 => ?_
  refine vm rfl rfl ?_
  refine RL.val (O.not rfl) rfl ?_
  refine nt hQ110 ?_
  clear hQ110 Q110
  refine KC.cond rfl (fun hc => ?_) (fun hc => ?_)
  ·rw [if_pos hc] at hF
   refine sr fun Q111 hQ111 => ?_
   refine va rfl rfl ?_
   refine nt hQ111 ?_
   clear hQ111 Q111
   refine KC.ret ?_
   refine KQ.thr hQ109 ?_
   clear hQ109 Q109
   have hE := Option.some.inj hF
   clear hF
   subst hE
   replace hM := hM.pick [] rfl (by decide)
   refine KQ.rets Try.results20 (RVs.cons (RV.tm rfl) RVs.nil) ?_
   exact ⟨_, rfl, rfl, hM⟩
  rw [if_neg (ne_true hc)] at hF
  refine KC.skip ?_
  refine KQ.thn hQ109 ?_
  clear hQ109 Q109
  refine KC.cut (fun a w120 => ∃ (none119 : Bool), Kn 66 [(1, .slice A96 (cut94).length c97), (11, .slice A106 (y102.1).length c107), (13, vB none119)] a ∧ Mem w [] w120 [.row A106 c107 5 1 (y102.1).length ((y102.1).flatMap (eI .u8))] ∧ F_trans_Sound_j3 cut94 y102 none119 = some r) ?_ ?_
  ·refine KC.region ?_
   refine vm rfl rfl ?_
   refine RL.val (O.eql rfl rfl) rfl ?_
   refine vm rfl rfl ?_
   refine RL.bcase (t := 42) rfl (fun hc => ?_) (fun hc => ?_)
   ·rw [if_pos hc] at hF
    refine RL.gval rfl rfl (O.move rfl) rfl ?_
    refine RL.gval rfl rfl (O.len sl24 rfl) rfl ?_
    refine RL.gval rfl rfl (O.eql rfl rfl) rfl ?_
    refine RL.val (O.pickt rfl rfl) rfl ?_
    refine vm rfl rfl ?_
    refine RL.bcase (t := 47) rfl (fun hc => ?_) (fun hc => ?_)
    ·rw [if_pos hc] at hF
     refine RL.gval rfl rfl (O.move rfl) rfl ?_
     refine obindE hF fun xv114 hx113 hF => ?_
     have hA112 := Rd.atN (f := (eI .u8)) (s := 1) (fun _ => rfl) (by decide) (hM.inp hr98 Off.nil) hx113
     refine RL.gval rfl rfl (O.idxA sl24 (hA112) rfl rfl) rfl ?_
     refine RL.gval rfl rfl (O.load sc5 rfl (hA112).cells.at0) rfl ?_
     refine RL.gval rfl rfl (O.eql rfl rfl) rfl ?_
     refine RL.val (O.pickt rfl rfl) rfl ?_
     refine vm rfl rfl ?_
     refine RL.bcase (t := 53) rfl (fun hc => ?_) (fun hc => ?_)
     ·rw [if_pos hc] at hF
      refine RL.gval rfl rfl (O.move rfl) rfl ?_
      refine obindE hF fun xv117 hx116 hF => ?_
      have hA115 := Rd.atN (f := (eI .u8)) (s := 1) (fun _ => rfl) (by decide) (hM.inp hr98 Off.nil) hx116
      refine RL.gval rfl rfl (O.idxA sl24 (hA115) rfl rfl) rfl ?_
      refine RL.gval rfl rfl (O.load sc5 rfl (hA115).cells.at0) rfl ?_
      refine RL.gval rfl rfl (O.eql rfl rfl) rfl ?_
      refine RL.val (O.pickt rfl rfl) rfl ?_
      refine va rfl rfl ?_
      refine RL.nil ?_
      refine KQ.then_k ?_
      exact fun a ha => ⟨(xv117 == 0), ha.less (less_cons rfl (less_cons rfl (less_cons rfl less_nil))), hM, hF⟩
     rw [if_neg (ne_true hc)] at hF
     refine RL.brun1 5 58 false (by kernel_rfl) ?_
     refine va rfl rfl ?_
     refine RL.nil ?_
     refine KQ.then_k ?_
     exact fun a ha => ⟨false, ha.less (less_cons rfl (less_cons rfl (less_cons rfl less_nil))), hM, hF⟩
    rw [if_neg (ne_true hc)] at hF
    refine RL.brun1 11 58 false (by kernel_rfl) ?_
    refine va rfl rfl ?_
    refine RL.nil ?_
    refine KQ.then_k ?_
    exact fun a ha => ⟨false, ha.less (less_cons rfl (less_cons rfl (less_cons rfl less_nil))), hM, hF⟩
   rw [if_neg (ne_true hc)] at hF
   refine RL.brun1 16 58 false (by kernel_rfl) ?_
   refine va rfl rfl ?_
   refine RL.nil ?_
   refine KQ.then_k ?_
   exact fun a ha => ⟨false, ha.less (less_cons rfl (less_cons rfl (less_cons rfl less_nil))), hM, hF⟩
  rintro a w120 ⟨none119, ha, hM, hF⟩
  refine KC.app ha ?_
  clear ha
  unfold F_trans_Sound_j3 at hF
  refine KC.cut (fun a w129 => ∃ (t128 : Bool), Kn 66 [(8, vB t128)] a ∧ Mem w [] w129 [] ∧ F_trans_Sound_j4 t128 = some r) ?_ ?_
  ·refine KC.region ?_
   refine vm rfl rfl ?_
   refine vm rfl rfl ?_
   refine RL.bcase (t := 60) rfl (fun hc => ?_) (fun hc => ?_)
   ·rw [if_pos hc] at hF
    refine RL.brun1 5 65 true (by kernel_rfl) ?_
    refine va rfl rfl ?_
    refine RL.nil ?_
    refine KQ.then_k ?_
    replace hM := hM.pick [] rfl (by decide)
    exact fun a ha => ⟨true, ha.less (less_cons rfl less_nil), hM, hF⟩
   rw [if_neg (ne_true hc)] at hF
   refine RL.gval rfl rfl (O.move rfl) rfl ?_
   refine RL.gval rfl rfl (O.move rfl) rfl ?_
   refine RL.geff rfl rfl (E.bslR (enc := (eI .u8)) (us := [.slice A106 (y102.1).length c107, .slice A96 (cut94).length c97]) (xss := [y102.1, cut94]) (Rdl.cons ((hM.rd (i := 0) rfl)) (Rdl.cons ((hM.inp hr98 Off.nil)) Rdl.nil)) hM sl88 ze24 rfl rfl rfl rfl rfl) rfl fun v w121 hv => ?_
   clear hM
   obtain ⟨A122, rfl, hM, hf, hr123⟩ := hv
   refine obindE hF fun y124 hx125 hF => ?_
   refine RL.gcall rfl rfl Try.func40 bd40 rfl rfl (c_sum_Whole _ _ _ ([y102.1, cut94]) (hr123) _ hx125) fun v w126 hv => ?_
   obtain ⟨rfl, hN127⟩ := hv
   have hr123 := hr123.fut hN127.fut
   replace hM := hM.call0 hN127
   refine RL.val (O.pickf rfl rfl) rfl ?_
   refine va rfl rfl ?_
   refine RL.nil ?_
   refine KQ.then_k ?_
   replace hM := hM.pick [] rfl (by decide)
   exact fun a ha => ⟨y124, ha.less (less_cons rfl less_nil), hM, hF⟩
  rintro a w129 ⟨t128, ha, hM, hF⟩
  refine KC.app ha ?_
  clear ha
  unfold F_trans_Sound_j4 at hF
  refine KC.ret ?_
  have hE := Option.some.inj hF
  clear hF
  subst hE
  refine KQ.rets Try.results20 (RVs.cons (RV.tm rfl) RVs.nil) ?_
  exact ⟨_, rfl, rfl, hM⟩
 rw [if_neg hk85] at hF
 by_cases hk130 : (proto1 == 1) = true
 ·rw [if_pos hk130] at hF
  refine RD.q rfl rfl rfl rfl (fun w' hf => O.lkT1 ((hM.mapAt (i := 3) rfl).fut hf) Try.underlying64 Try.underlying5 rfl rfl (lk_miss hk40 (lk_miss hk85 (lk_hit hk130)))) ?_
  refine RD.micall rfl rfl rfl Try.func32 bd32 rfl rfl rfl Try.ntmps32 rfl ?_
  refine sr fun Q131 hQ131 => ?_
  refine RL.eff (E.box (vs := [vI 4, vI 2, .func (.func 46) #[] #[], .func (.func 47) #[] #[], .func (.func 48) #[] #[]]) hM rfl rfl) rfl fun v w133 hv => ?_
  clear hM
  obtain ⟨g132, rfl, hM, hf⟩ := hv
  refine RL.eff (E.box (vs := [v8 y16.1.f_Proto, v16 y16.1.f_Src, v16 y16.1.f_Dst, v32 y16.1.f_Seq, v32 y16.1.f_Ack, v8 y16.1.f_Flags, v16 y16.1.f_Window, v16 y16.1.f_Urgent, .slice A20 (y16.1.f_Options).length c21, v8 y16.1.f_Type, v8 y16.1.f_Code, .slice A23 (y16.1.f_Data).length c24]) hM rfl rfl) rfl fun v w136 hv => ?_
  clear hM
  obtain ⟨g135, rfl, hM, hf⟩ := hv
  refine va rfl rfl ?_
  refine nt hQ131 ?_
  clear hQ131 Q131
  refine sr fun Q138 hQ138 => ?_
  refine RL.val (O.fldA fl62_0 (by decide) rfl) rfl ?_
  refine RL.val (O.load sc3 rfl (Cs.adds [0] ((hM.bx (i := 4) rfl)) rfl)) rfl ?_
  refine RL.val (O.fldA fl26_8 (by decide) rfl) rfl ?_
  refine RL.val (O.load sc24 rfl (Cs.adds [8] ((hM.bx (i := 5) rfl)) rfl)) rfl ?_
  refine RL.val (O.len sl24 rfl) rfl ?_
  refine RL.val (O.add rfl rfl) rfl ?_
  refine RL.val (O.fldA fl26_11 (by decide) rfl) rfl ?_
  refine RL.val (O.load sc24 rfl (Cs.adds [11] ((hM.bx (i := 5) rfl)) rfl)) rfl ?_
  refine RL.val (O.len sl24 rfl) rfl ?_
  refine RL.val (O.add rfl rfl) rfl ?_
  refine va rfl rfl ?_
  refine nt hQ138 ?_
  clear hQ138 Q138
  refine KC.ret ?_
  refine KQ.rets Try.results32 (RVs.cons (RV.tm rfl) RVs.nil) ?_
  refine ⟨.int .i64 (IntKind.i64.wrap ((IntKind.i64.wrap (4 + (y16.1.f_Options.length : Int))) + (y16.1.f_Data.length : Int))), rfl, ?_⟩
  refine obindE hF fun cut139 hy140 hF => ?_
  refine cutNE A3 c4 (Int.toNat 0) 1 fun A141 c142 eA144 ec145 => ?_
  have hr143 := Rd.cutT (enc := (eI .u8)) (s := 1) (fun _ => rfl) hr5 hy140 (m := c4) (by have := hr5.cap; have := (gcut_some hy140).2.2.1; omega) (Nat.le_refl _)
  rw [← eA144, ← ec145] at hr143
  refine RD.p (v := .slice A141 (cut139).length c142) rfl rfl rfl rfl (fun w' => (by rw [eA144, ec145]; exact O.cuthT sl24 (hM.inp hr5 Off.nil) hy140 rfl rfl)) ?_
  refine RD.p rfl rfl rfl rfl (fun w' => O.assign rfl) ?_
  refine RD.nil ?_
  refine KQ.thn hQ33 ?_
  clear hQ33 Q33
  replace hM := hM.pick [] rfl (by decide)
  refine sr fun Q146 hQ146 => ?_
  refine vm rfl rfl ?_
  refine vm rfl rfl ?_
  refine RL.val (O.len sl24 rfl) rfl ?_
  refine vm rfl rfl ?_
  refine vm rfl rfl ?_
  refine obindE hF fun y147 hx148 hF => ?_
  refine RL.call Try.func31 bd31 rfl rfl (c_trans_pseudo _ proto1 (cut139.length : Int) _ _ src6 (hM.inp hr9 Off.nil) _ _ dst10 (hM.inp hr13 Off.nil) _ hx148) fun v w149 hv => ?_
  obtain ⟨A151, c152, rfl, hN150⟩ := hv
  replace hM := hM.call hN150
  refine vm rfl rfl ?_
  refine RL.val (O.ext rfl rfl) rfl ?_
  refine RL.val (O.ext rfl rfl) rfl ?_
  refine va rfl rfl ?_
  refine va rfl rfl ?_
  refine nt hQ146 ?_
  clear hQ146 Q146
  refine KC.seqH fun Q154 hQ154 => ?_
  refine sr fun Q155 hQ155 => ?_
  refine vm rfl rfl ?_
  refine RL.val (O.not rfl) rfl ?_
  refine nt hQ155 ?_
  clear hQ155 Q155
  refine KC.cond rfl (fun hc => ?_) (fun hc => ?_)
  ·rw [if_pos hc] at hF
   refine sr fun Q156 hQ156 => ?_
   refine va rfl rfl ?_
   refine nt hQ156 ?_
   clear hQ156 Q156
   refine KC.ret ?_
   refine KQ.thr hQ154 ?_
   clear hQ154 Q154
   have hE := Option.some.inj hF
   clear hF
   subst hE
   replace hM := hM.pick [] rfl (by decide)
   refine KQ.rets Try.results20 (RVs.cons (RV.tm rfl) RVs.nil) ?_
   exact ⟨_, rfl, rfl, hM⟩
  rw [if_neg (ne_true hc)] at hF
  refine KC.skip ?_
  refine KQ.thn hQ154 ?_
  clear hQ154 Q154
  refine KC.cut (fun a w165 => ∃ (none164 : Bool), Kn 66 [(1, .slice A141 (cut139).length c142), (11, .slice A151 (y147.1).length c152), (13, vB none164)] a ∧ Mem w [] w165 [.row A151 c152 5 1 (y147.1).length ((y147.1).flatMap (eI .u8))] ∧ F_trans_Sound_j5 cut139 y147 none164 = some r) ?_ ?_
  ·refine KC.region ?_
   refine vm rfl rfl ?_
   refine RL.val (O.eql rfl rfl) rfl ?_
   refine vm rfl rfl ?_
   refine RL.bcase (t := 42) rfl (fun hc => ?_) (fun hc => ?_)
   ·rw [if_pos hc] at hF
    refine RL.gval rfl rfl (O.move rfl) rfl ?_
    refine RL.gval rfl rfl (O.len sl24 rfl) rfl ?_
    refine RL.gval rfl rfl (O.eql rfl rfl) rfl ?_
    refine RL.val (O.pickt rfl rfl) rfl ?_
    refine vm rfl rfl ?_
    refine RL.bcase (t := 47) rfl (fun hc => ?_) (fun hc => ?_)
    ·rw [if_pos hc] at hF
     refine RL.gval rfl rfl (O.move rfl) rfl ?_
     refine obindE hF fun xv159 hx158 hF => ?_
     have hA157 := Rd.atN (f := (eI .u8)) (s := 1) (fun _ => rfl) (by decide) (hM.inp hr143 Off.nil) hx158
     refine RL.gval rfl rfl (O.idxA sl24 (hA157) rfl rfl) rfl ?_
     refine RL.gval rfl rfl (O.load sc5 rfl (hA157).cells.at0) rfl ?_
     refine RL.gval rfl rfl (O.eql rfl rfl) rfl ?_
     refine RL.val (O.pickt rfl rfl) rfl ?_
     refine vm rfl rfl ?_
     refine RL.bcase (t := 53) rfl (fun hc => ?_) (fun hc => ?_)
     ·rw [if_pos hc] at hF
      refine RL.gval rfl rfl (O.move rfl) rfl ?_
      refine obindE hF fun xv162 hx161 hF => ?_
      have hA160 := Rd.atN (f := (eI .u8)) (s := 1) (fun _ => rfl) (by decide) (hM.inp hr143 Off.nil) hx161
      refine RL.gval rfl rfl (O.idxA sl24 (hA160) rfl rfl) rfl ?_
      refine RL.gval rfl rfl (O.load sc5 rfl (hA160).cells.at0) rfl ?_
      refine RL.gval rfl rfl (O.eql rfl rfl) rfl ?_
      refine RL.val (O.pickt rfl rfl) rfl ?_
      refine va rfl rfl ?_
      refine RL.nil ?_
      refine KQ.then_k ?_
      exact fun a ha => ⟨(xv162 == 0), ha.less (less_cons rfl (less_cons rfl (less_cons rfl less_nil))), hM, hF⟩
     rw [if_neg (ne_true hc)] at hF
     refine RL.brun1 5 58 false (by kernel_rfl) ?_
     refine va rfl rfl ?_
     refine RL.nil ?_
     refine KQ.then_k ?_
     exact fun a ha => ⟨false, ha.less (less_cons rfl (less_cons rfl (less_cons rfl less_nil))), hM, hF⟩
    rw [if_neg (ne_true hc)] at hF
    refine RL.brun1 11 58 false (by kernel_rfl) ?_
    refine va rfl rfl ?_
    refine RL.nil ?_
    refine KQ.then_k ?_
    exact fun a ha => ⟨false, ha.less (less_cons rfl (less_cons rfl (less_cons rfl less_nil))), hM, hF⟩
   rw [if_neg (ne_true hc)] at hF
   refine RL.brun1 16 58 false (by kernel_rfl) ?_
   refine va rfl rfl ?_
   refine RL.nil ?_
   refine KQ.then_k ?_
   exact fun a ha => ⟨false, ha.less (less_cons rfl (less_cons rfl (less_cons rfl less_nil))), hM, hF⟩
  rintro a w165 ⟨none164, ha, hM, hF⟩
  refine KC.app ha ?_
  clear ha
  unfold F_trans_Sound_j5 at hF
  refine KC.cut (fun a w174 => ∃ (t173 : Bool), Kn 66 [(8, vB t173)] a ∧ Mem w [] w174 [] ∧ F_trans_Sound_j6 t173 = some r) ?_ ?_
  ·refine KC.region ?_
   refine vm rfl rfl ?_
   refine vm rfl rfl ?_
   refine RL.bcase (t := 60) rfl (fun hc => ?_) (fun hc => ?_)
   ·rw [if_pos hc] at hF
    refine RL.brun1 5 65 true (by kernel_rfl) ?_
    refine va rfl rfl ?_
    refine RL.nil ?_
    refine KQ.then_k ?_
    replace hM := hM.pick [] rfl (by decide)
    exact fun a ha => ⟨true, ha.less (less_cons rfl less_nil), hM, hF⟩
   rw [if_neg (ne_true hc)] at hF
   refine RL.gval rfl rfl (O.move rfl) rfl ?_
   refine RL.gval rfl rfl (O.move rfl) rfl ?_
   refine RL.geff rfl rfl (E.bslR (enc := (eI .u8)) (us := [.slice A151 (y147.1).length c152, .slice A141 (cut139).length c142]) (xss := [y147.1, cut139]) (Rdl.cons ((hM.rd (i := 0) rfl)) (Rdl.cons ((hM.inp hr143 Off.nil)) Rdl.nil)) hM sl88 ze24 rfl rfl rfl rfl rfl) rfl fun v w166 hv => ?_
   clear hM
   obtain ⟨A167, rfl, hM, hf, hr168⟩ := hv
   refine obindE hF fun y169 hx170 hF => ?_
   refine RL.gcall rfl rfl Try.func40 bd40 rfl rfl (c_sum_Whole _ _ _ ([y147.1, cut139]) (hr168) _ hx170) fun v w171 hv => ?_
   obtain ⟨rfl, hN172⟩ := hv
   have hr168 := hr168.fut hN172.fut
   replace hM := hM.call0 hN172
   refine RL.val (O.pickf rfl rfl) rfl ?_
   refine va rfl rfl ?_
   refine RL.nil ?_
   refine KQ.then_k ?_
   replace hM := hM.pick [] rfl (by decide)
   exact fun a ha => ⟨y169, ha.less (less_cons rfl less_nil), hM, hF⟩
  rintro a w174 ⟨t173, ha, hM, hF⟩
  refine KC.app ha ?_
  clear ha
  unfold F_trans_Sound_j6 at hF
  refine KC.ret ?_
  have hE := Option.some.inj hF
  clear hF
  subst hE
  refine KQ.rets Try.results20 (RVs.cons (RV.tm rfl) RVs.nil) ?_
  exact ⟨_, rfl, rfl, hM⟩
 rw [if_neg hk130] at hF
 by_cases hk175 : (proto1 == 58) = true
 ·rw [if_pos hk175] at hF
  refine RD.q rfl rfl rfl rfl (fun w' hf => O.lkT1 ((hM.mapAt (i := 3) rfl).fut hf) Try.underlying64 Try.underlying5 rfl rfl (lk_miss hk40 (lk_miss hk85 (lk_miss hk130 (lk_hit hk175))))) ?_
  refine RD.micall rfl rfl rfl Try.func32 bd32 rfl rfl rfl Try.ntmps32 rfl ?_
  refine sr fun Q176 hQ176 => ?_
  refine RL.eff (E.box (vs := [vI 4, vI 2, .func (.func 46) #[] #[], .func (.func 47) #[] #[], .func (.func 48) #[] #[]]) hM rfl rfl) rfl fun v w178 hv => ?_
  clear hM
  obtain ⟨g177, rfl, hM, hf⟩ := hv
  refine RL.eff (E.box (vs := [v8 y16.1.f_Proto, v16 y16.1.f_Src, v16 y16.1.f_Dst, v32 y16.1.f_Seq, v32 y16.1.f_Ack, v8 y16.1.f_Flags, v16 y16.1.f_Window, v16 y16.1.f_Urgent, .slice A20 (y16.1.f_Options).length c21, v8 y16.1.f_Type, v8 y16.1.f_Code, .slice A23 (y16.1.f_Data).length c24]) hM rfl rfl) rfl fun v w181 hv => ?_
  clear hM
  obtain ⟨g180, rfl, hM, hf⟩ := hv
  refine va rfl rfl ?_
  refine nt hQ176 ?_
  clear hQ176 Q176
  refine sr fun Q183 hQ183 => ?_
  refine RL.val (O.fldA fl62_0 (by decide) rfl) rfl ?_
  refine RL.val (O.load sc3 rfl (Cs.adds [0] ((hM.bx (i := 4) rfl)) rfl)) rfl ?_
  refine RL.val (O.fldA fl26_8 (by decide) rfl) rfl ?_
  refine RL.val (O.load sc24 rfl (Cs.adds [8] ((hM.bx (i := 5) rfl)) rfl)) rfl ?_
  refine RL.val (O.len sl24 rfl) rfl ?_
  refine RL.val (O.add rfl rfl) rfl ?_
  refine RL.val (O.fldA fl26_11 (by decide) rfl) rfl ?_
  refine RL.val (O.load sc24 rfl (Cs.adds [11] ((hM.bx (i := 5) rfl)) rfl)) rfl ?_
  refine RL.val (O.len sl24 rfl) rfl ?_
  refine RL.val (O.add rfl rfl) rfl ?_
  refine va rfl rfl ?_
  refine nt hQ183 ?_
  clear hQ183 Q183
  refine KC.ret ?_
  refine KQ.rets Try.results32 (RVs.cons (RV.tm rfl) RVs.nil) ?_
  refine ⟨.int .i64 (IntKind.i64.wrap ((IntKind.i64.wrap (4 + (y16.1.f_Options.length : Int))) + (y16.1.f_Data.length : Int))), rfl, ?_⟩
  refine obindE hF fun cut184 hy185 hF => ?_
  refine cutNE A3 c4 (Int.toNat 0) 1 fun A186 c187 eA189 ec190 => ?_
  have hr188 := Rd.cutT (enc := (eI .u8)) (s := 1) (fun _ => rfl) hr5 hy185 (m := c4) (by have := hr5.cap; have := (gcut_some hy185).2.2.1; omega) (Nat.le_refl _)
  rw [← eA189, ← ec190] at hr188
  refine RD.p (v := .slice A186 (cut184).length c187) rfl rfl rfl rfl (fun w' => (by rw [eA189, ec190]; exact O.cuthT sl24 (hM.inp hr5 Off.nil) hy185 rfl rfl)) ?_
  refine RD.p rfl rfl rfl rfl (fun w' => O.assign rfl) ?_
  refine RD.nil ?_
  refine KQ.thn hQ33 ?_
  clear hQ33 Q33
  replace hM := hM.pick [] rfl (by decide)
  refine sr fun Q191 hQ191 => ?_
  refine vm rfl rfl ?_
  refine vm rfl rfl ?_
  refine RL.val (O.len sl24 rfl) rfl ?_
  refine vm rfl rfl ?_
  refine vm rfl rfl ?_
  refine obindE hF fun y192 hx193 hF => ?_
  refine RL.call Try.func31 bd31 rfl rfl (c_trans_pseudo _ proto1 (cut184.length : Int) _ _ src6 (hM.inp hr9 Off.nil) _ _ dst10 (hM.inp hr13 Off.nil) _ hx193) fun v w194 hv => ?_
  obtain ⟨A196, c197, rfl, hN195⟩ := hv
  replace hM := hM.call hN195
  refine vm rfl rfl ?_
  refine RL.val (O.ext rfl rfl) rfl ?_
  refine RL.val (O.ext rfl rfl) rfl ?_
  refine va rfl rfl ?_
  refine va rfl rfl ?_
  refine nt hQ191 ?_
  clear hQ191 Q191
  refine KC.seqH fun Q199 hQ199 => ?_
  refine sr fun Q200 hQ200 => ?_
  refine vm rfl rfl ?_
  refine RL.val (O.not rfl) rfl ?_
  refine nt hQ200 ?_
  clear hQ200 Q200
  refine KC.cond rfl (fun hc => ?_) (fun hc => ?_)
  ·rw [if_pos hc] at hF
   refine sr fun Q201 hQ201 => ?_
   refine va rfl rfl ?_
   refine nt hQ201 ?_
   clear hQ201 Q201
   refine KC.ret ?_
   refine KQ.thr hQ199 ?_
   clear hQ199 Q199
   have hE := Option.some.inj hF
   clear hF
   subst hE
   replace hM := hM.pick [] rfl (by decide)
   refine KQ.rets Try.results20 (RVs.cons (RV.tm rfl) RVs.nil) ?_
   exact ⟨_, rfl, rfl, hM⟩
  rw [if_neg (ne_true hc)] at hF
  refine KC.skip ?_
  refine KQ.thn hQ199 ?_
  clear hQ199 Q199
  refine KC.cut (fun a w210 => ∃ (none209 : Bool), Kn 66 [(1, .slice A186 (cut184).length c187), (11, .slice A196 (y192.1).length c197), (13, vB none209)] a ∧ Mem w [] w210 [.row A196 c197 5 1 (y192.1).length ((y192.1).flatMap (eI .u8))] ∧ F_trans_Sound_j7 cut184 y192 none209 = some r) ?_ ?_
  ·refine KC.region ?_
   refine vm rfl rfl ?_
   refine RL.val (O.eql rfl rfl) rfl ?_
   refine vm rfl rfl ?_
   refine RL.bcase (t := 42) rfl (fun hc => ?_) (fun hc => ?_)
   ·rw [if_pos hc] at hF
    refine RL.gval rfl rfl (O.move rfl) rfl ?_
    refine RL.gval rfl rfl (O.len sl24 rfl) rfl ?_
    refine RL.gval rfl rfl (O.eql rfl rfl) rfl ?_
    refine RL.val (O.pickt rfl rfl) rfl ?_
    refine vm rfl rfl ?_
    refine RL.bcase (t := 47) rfl (fun hc => ?_) (fun hc => ?_)
    ·rw [if_pos hc] at hF
     refine RL.gval rfl rfl (O.move rfl) rfl ?_
     refine obindE hF fun xv204 hx203 hF => ?_
     have hA202 := Rd.atN (f := (eI .u8)) (s := 1) (fun _ => rfl) (by decide) (hM.inp hr188 Off.nil) hx203
     refine RL.gval rfl rfl (O.idxA sl24 (hA202) rfl rfl) rfl ?_
     refine RL.gval rfl rfl (O.load sc5 rfl (hA202).cells.at0) rfl ?_
     refine RL.gval rfl rfl (O.eql rfl rfl) rfl ?_
     refine RL.val (O.pickt rfl rfl) rfl ?_
     refine vm rfl rfl ?_
     refine RL.bcase (t := 53) rfl (fun hc => ?_) (fun hc => ?_)
     ·rw [if_pos hc] at hF
      refine RL.gval rfl rfl (O.move rfl) rfl ?_
      refine obindE hF fun xv207 hx206 hF => ?_
      have hA205 := Rd.atN (f := (eI .u8)) (s := 1) (fun _ => rfl) (by decide) (hM.inp hr188 Off.nil) hx206
      refine RL.gval rfl rfl (O.idxA sl24 (hA205) rfl rfl) rfl ?_
      refine RL.gval rfl rfl (O.load sc5 rfl (hA205).cells.at0) rfl ?_
      refine RL.gval rfl rfl (O.eql rfl rfl) rfl ?_
      refine RL.val (O.pickt rfl rfl) rfl ?_
      refine va rfl rfl ?_
      refine RL.nil ?_
      refine KQ.then_k ?_
      exact fun a ha => ⟨(xv207 == 0), ha.less (less_cons rfl (less_cons rfl (less_cons rfl less_nil))), hM, hF⟩
     rw [if_neg (ne_true hc)] at hF
     refine RL.brun1 5 58 false (by kernel_rfl) ?_
     refine va rfl rfl ?_
     refine RL.nil ?_
     refine KQ.then_k ?_
     exact fun a ha => ⟨false, ha.less (less_cons rfl (less_cons rfl (less_cons rfl less_nil))), hM, hF⟩
    rw [if_neg (ne_true hc)] at hF
    refine RL.brun1 11 58 false (by kernel_rfl) ?_
    refine va rfl rfl ?_
    refine RL.nil ?_
    refine KQ.then_k ?_
    exact fun a ha => ⟨false, ha.less (less_cons rfl (less_cons rfl (less_cons rfl less_nil))), hM, hF⟩
   rw [if_neg (ne_true hc)] at hF
   refine RL.brun1 16 58 false (by kernel_rfl) ?_
   refine va rfl rfl ?_
   refine RL.nil ?_
   refine KQ.then_k ?_
   exact fun a ha => ⟨false, ha.less (less_cons rfl (less_cons rfl (less_cons rfl less_nil))), hM, hF⟩
  rintro a w210 ⟨none209, ha, hM, hF⟩
  refine KC.app ha ?_
  clear ha
  unfold F_trans_Sound_j7 at hF
  refine KC.cut (fun a w219 => ∃ (t218 : Bool), Kn 66 [(8, vB t218)] a ∧ Mem w [] w219 [] ∧ F_trans_Sound_j8 t218 = some r) ?_ ?_
  ·refine KC.region ?_
   refine vm rfl rfl ?_
   refine vm rfl rfl ?_
   refine RL.bcase (t := 60) rfl (fun hc => ?_) (fun hc => ?_)
   ·rw [if_pos hc] at hF
    refine RL.brun1 5 65 true (by kernel_rfl) ?_
    refine va rfl rfl ?_
    refine RL.nil ?_
    refine KQ.then_k ?_
    replace hM := hM.pick [] rfl (by decide)
    exact fun a ha => ⟨true, ha.less (less_cons rfl less_nil), hM, hF⟩
   rw [if_neg (ne_true hc)] at hF
   refine RL.gval rfl rfl (O.move rfl) rfl ?_
   refine RL.gval rfl rfl (O.move rfl) rfl ?_
   refine RL.geff rfl rfl (E.bslR (enc := (eI .u8)) (us := [.slice A196 (y192.1).length c197, .slice A186 (cut184).length c187]) (xss := [y192.1, cut184]) (Rdl.cons ((hM.rd (i := 0) rfl)) (Rdl.cons ((hM.inp hr188 Off.nil)) Rdl.nil)) hM sl88 ze24 rfl rfl rfl rfl rfl) rfl fun v w211 hv => ?_
   clear hM
   obtain ⟨A212, rfl, hM, hf, hr213⟩ := hv
   refine obindE hF fun y214 hx215 hF => ?_
   refine RL.gcall rfl rfl Try.func40 bd40 rfl rfl (c_sum_Whole _ _ _ ([y192.1, cut184]) (hr213) _ hx215) fun v w216 hv => ?_
   obtain ⟨rfl, hN217⟩ := hv
   have hr213 := hr213.fut hN217.fut
   replace hM := hM.call0 hN217
   refine RL.val (O.pickf rfl rfl) rfl ?_
   refine va rfl rfl ?_
   refine RL.nil ?_
   refine KQ.then_k ?_
   replace hM := hM.pick [] rfl (by decide)
   exact fun a ha => ⟨y214, ha.less (less_cons rfl less_nil), hM, hF⟩
  rintro a w219 ⟨t218, ha, hM, hF⟩
  refine KC.app ha ?_
  clear ha
  unfold F_trans_Sound_j8 at hF
  refine KC.ret ?_
  have hE := Option.some.inj hF
  clear hF
  subst hE
  refine KQ.rets Try.results20 (RVs.cons (RV.tm rfl) RVs.nil) ?_
  exact ⟨_, rfl, rfl, hM⟩
 rw [if_neg hk175] at hF
 refine RD.q rfl rfl rfl rfl (fun w' hf => O.lkF1 (cs := [vI 0, vI 0, Value.nilFunc, Value.nilFunc, Value.nilFunc]) ((hM.mapAt (i := 3) rfl).fut hf) Try.underlying64 Try.underlying5 (by kernel_rfl) rfl rfl (lk_miss hk40 (lk_miss hk85 (lk_miss hk130 (lk_miss hk175 (lk_nil)))))) ?_
 refine RD.micall rfl rfl rfl Try.func32 bd32 rfl rfl rfl Try.ntmps32 rfl ?_
 refine sr fun Q221 hQ221 => ?_
 refine RL.eff (E.box (vs := [vI 0, vI 0, Value.nilFunc, Value.nilFunc, Value.nilFunc]) hM rfl rfl) rfl fun v w223 hv => ?_
 clear hM
 obtain ⟨g222, rfl, hM, hf⟩ := hv
 refine RL.eff (E.box (vs := [v8 y16.1.f_Proto, v16 y16.1.f_Src, v16 y16.1.f_Dst, v32 y16.1.f_Seq, v32 y16.1.f_Ack, v8 y16.1.f_Flags, v16 y16.1.f_Window, v16 y16.1.f_Urgent, .slice A20 (y16.1.f_Options).length c21, v8 y16.1.f_Type, v8 y16.1.f_Code, .slice A23 (y16.1.f_Data).length c24]) hM rfl rfl) rfl fun v w226 hv => ?_
 clear hM
 obtain ⟨g225, rfl, hM, hf⟩ := hv
 refine va rfl rfl ?_
 refine nt hQ221 ?_
 clear hQ221 Q221
 refine sr fun Q228 hQ228 => ?_
 refine RL.val (O.fldA fl62_0 (by decide) rfl) rfl ?_
 refine RL.val (O.load sc3 rfl (Cs.adds [0] ((hM.bx (i := 4) rfl)) rfl)) rfl ?_
 refine RL.val (O.fldA fl26_8 (by decide) rfl) rfl ?_
 refine RL.val (O.load sc24 rfl (Cs.adds [8] ((hM.bx (i := 5) rfl)) rfl)) rfl ?_
 refine RL.val (O.len sl24 rfl) rfl ?_
 refine RL.val (O.add rfl rfl) rfl ?_
 refine RL.val (O.fldA fl26_11 (by decide) rfl) rfl ?_
 refine RL.val (O.load sc24 rfl (Cs.adds [11] ((hM.bx (i := 5) rfl)) rfl)) rfl ?_
 refine RL.val (O.len sl24 rfl) rfl ?_
 refine RL.val (O.add rfl rfl) rfl ?_
 refine va rfl rfl ?_
 refine nt hQ228 ?_
 clear hQ228 Q228
 refine KC.ret ?_
 refine KQ.rets Try.results32 (RVs.cons (RV.tm rfl) RVs.nil) ?_
 refine ⟨.int .i64 (IntKind.i64.wrap ((IntKind.i64.wrap (0 + (y16.1.f_Options.length : Int))) + (y16.1.f_Data.length : Int))), rfl, ?_⟩
 refine obindE hF fun cut229 hy230 hF => ?_
 refine cutNE A3 c4 (Int.toNat 0) 1 fun A231 c232 eA234 ec235 => ?_
 have hr233 := Rd.cutT (enc := (eI .u8)) (s := 1) (fun _ => rfl) hr5 hy230 (m := c4) (by have := hr5.cap; have := (gcut_some hy230).2.2.1; omega) (Nat.le_refl _)
 rw [← eA234, ← ec235] at hr233
 refine RD.p (v := .slice A231 (cut229).length c232) rfl rfl rfl rfl (fun w' => (by rw [eA234, ec235]; exact O.cuthT sl24 (hM.inp hr5 Off.nil) hy230 rfl rfl)) ?_
 refine RD.p rfl rfl rfl rfl (fun w' => O.assign rfl) ?_
 refine RD.nil ?_
 refine KQ.thn hQ33 ?_
 clear hQ33 Q33
 replace hM := hM.pick [] rfl (by decide)
 refine sr fun Q236 hQ236 => ?_
 refine vm rfl rfl ?_
 refine vm rfl rfl ?_
 refine RL.val (O.len sl24 rfl) rfl ?_
 refine vm rfl rfl ?_
 refine vm rfl rfl ?_
 refine obindE hF fun y237 hx238 hF => ?_
 refine RL.call Try.func31 bd31 rfl rfl (c_trans_pseudo _ proto1 (cut229.length : Int) _ _ src6 (hM.inp hr9 Off.nil) _ _ dst10 (hM.inp hr13 Off.nil) _ hx238) fun v w239 hv => ?_
 obtain ⟨A241, c242, rfl, hN240⟩ := hv
 replace hM := hM.call hN240
 refine vm rfl rfl ?_
 refine RL.val (O.ext rfl rfl) rfl ?_
 refine RL.val (O.ext rfl rfl) rfl ?_
 refine va rfl rfl ?_
 refine va rfl rfl ?_
 refine nt hQ236 ?_
 clear hQ236 Q236
 refine KC.seqH fun Q244 hQ244 => ?_
 refine sr fun Q245 hQ245 => ?_
 refine vm rfl rfl ?_
 refine RL.val (O.not rfl) rfl ?_
 refine nt hQ245 ?_
 clear hQ245 Q245
 refine KC.cond rfl (fun hc => ?_) (fun hc => ?_)
 ·rw [if_pos hc] at hF
  refine sr fun Q246 hQ246 => ?_
  refine va rfl rfl ?_
  refine nt hQ246 ?_
  clear hQ246 Q246
  refine KC.ret ?_
  refine KQ.thr hQ244 ?_
  clear hQ244 Q244
  have hE := Option.some.inj hF
  clear hF
  subst hE
  replace hM := hM.pick [] rfl (by decide)
  refine KQ.rets Try.results20 (RVs.cons (RV.tm rfl) RVs.nil) ?_
  exact ⟨_, rfl, rfl, hM⟩
 rw [if_neg (ne_true hc)] at hF
 refine KC.skip ?_
 refine KQ.thn hQ244 ?_
 clear hQ244 Q244
 refine KC.cut (fun a w255 => ∃ (none254 : Bool), Kn 66 [(1, .slice A231 (cut229).length c232), (11, .slice A241 (y237.1).length c242), (13, vB none254)] a ∧ Mem w [] w255 [.row A241 c242 5 1 (y237.1).length ((y237.1).flatMap (eI .u8))] ∧ F_trans_Sound_j9 cut229 y237 none254 = some r) ?_ ?_
 ·refine KC.region ?_
  refine vm rfl rfl ?_
  refine RL.val (O.eql rfl rfl) rfl ?_
  refine vm rfl rfl ?_
  refine RL.bcase (t := 42) rfl (fun hc => ?_) (fun hc => ?_)
  ·rw [if_pos hc] at hF
   refine RL.gval rfl rfl (O.move rfl) rfl ?_
   refine RL.gval rfl rfl (O.len sl24 rfl) rfl ?_
   refine RL.gval rfl rfl (O.eql rfl rfl) rfl ?_
   refine RL.val (O.pickt rfl rfl) rfl ?_
   refine vm rfl rfl ?_
   refine RL.bcase (t := 47) rfl (fun hc => ?_) (fun hc => ?_)
   ·rw [if_pos hc] at hF
    refine RL.gval rfl rfl (O.move rfl) rfl ?_
    refine obindE hF fun xv249 hx248 hF => ?_
    have hA247 := Rd.atN (f := (eI .u8)) (s := 1) (fun _ => rfl) (by decide) (hM.inp hr233 Off.nil) hx248
    refine RL.gval rfl rfl (O.idxA sl24 (hA247) rfl rfl) rfl ?_
    refine RL.gval rfl rfl (O.load sc5 rfl (hA247).cells.at0) rfl ?_
    refine RL.gval rfl rfl (O.eql rfl rfl) rfl ?_
    refine RL.val (O.pickt rfl rfl) rfl ?_
    refine vm rfl rfl ?_
    refine RL.bcase (t := 53) rfl (fun hc => ?_) (fun hc => ?_)
    ·rw [if_pos hc] at hF
     refine RL.gval rfl rfl (O.move rfl) rfl ?_
     refine obindE hF fun xv252 hx251 hF => ?_
     have hA250 := Rd.atN (f := (eI .u8)) (s := 1) (fun _ => rfl) (by decide) (hM.inp hr233 Off.nil) hx251
     refine RL.gval rfl rfl (O.idxA sl24 (hA250) rfl rfl) rfl ?_
     refine RL.gval rfl rfl (O.load sc5 rfl (hA250).cells.at0) rfl ?_
     refine RL.gval rfl rfl (O.eql rfl rfl) rfl ?_
     refine RL.val (O.pickt rfl rfl) rfl ?_
     refine va rfl rfl ?_
     refine RL.nil ?_
     refine KQ.then_k ?_
     exact fun a ha => ⟨(xv252 == 0), ha.less (less_cons rfl (less_cons rfl (less_cons rfl less_nil))), hM, hF⟩
    rw [if_neg (ne_true hc)] at hF
    refine RL.brun1 5 58 false (by kernel_rfl) ?_
    refine va rfl rfl ?_
    refine RL.nil ?_
    refine KQ.then_k ?_
    exact fun a ha => ⟨false, ha.less (less_cons rfl (less_cons rfl (less_cons rfl less_nil))), hM, hF⟩
   rw [if_neg (ne_true hc)] at hF
   refine RL.brun1 11 58 false (by kernel_rfl) ?_
   refine va rfl rfl ?_
   refine RL.nil ?_
   refine KQ.then_k ?_
   exact fun a ha => ⟨false, ha.less (less_cons rfl (less_cons rfl (less_cons rfl less_nil))), hM, hF⟩
  rw [if_neg (ne_true hc)] at hF
  refine RL.brun1 16 58 false (by kernel_rfl) ?_
  refine va rfl rfl ?_
  refine RL.nil ?_
  refine KQ.then_k ?_
  exact fun a ha => ⟨false, ha.less (less_cons rfl (less_cons rfl (less_cons rfl less_nil))), hM, hF⟩
 rintro a w255 ⟨none254, ha, hM, hF⟩
 refine KC.app ha ?_
 clear ha
 unfold F_trans_Sound_j9 at hF
 refine KC.cut (fun a w264 => ∃ (t263 : Bool), Kn 66 [(8, vB t263)] a ∧ Mem w [] w264 [] ∧ F_trans_Sound_j10 t263 = some r) ?_ ?_
 ·refine KC.region ?_
  refine vm rfl rfl ?_
  refine vm rfl rfl ?_
  refine RL.bcase (t := 60) rfl (fun hc => ?_) (fun hc => ?_)
  ·rw [if_pos hc] at hF
   refine RL.brun1 5 65 true (by kernel_rfl) ?_
   refine va rfl rfl ?_
   refine RL.nil ?_
   refine KQ.then_k ?_
   replace hM := hM.pick [] rfl (by decide)
   exact fun a ha => ⟨true, ha.less (less_cons rfl less_nil), hM, hF⟩
  rw [if_neg (ne_true hc)] at hF
  refine RL.gval rfl rfl (O.move rfl) rfl ?_
  refine RL.gval rfl rfl (O.move rfl) rfl ?_
  refine RL.geff rfl rfl (E.bslR (enc := (eI .u8)) (us := [.slice A241 (y237.1).length c242, .slice A231 (cut229).length c232]) (xss := [y237.1, cut229]) (Rdl.cons ((hM.rd (i := 0) rfl)) (Rdl.cons ((hM.inp hr233 Off.nil)) Rdl.nil)) hM sl88 ze24 rfl rfl rfl rfl rfl) rfl fun v w256 hv => ?_
  clear hM
  obtain ⟨A257, rfl, hM, hf, hr258⟩ := hv
  refine obindE hF fun y259 hx260 hF => ?_
  refine RL.gcall rfl rfl Try.func40 bd40 rfl rfl (c_sum_Whole _ _ _ ([y237.1, cut229]) (hr258) _ hx260) fun v w261 hv => ?_
  obtain ⟨rfl, hN262⟩ := hv
  have hr258 := hr258.fut hN262.fut
  replace hM := hM.call0 hN262
  refine RL.val (O.pickf rfl rfl) rfl ?_
  refine va rfl rfl ?_
  refine RL.nil ?_
  refine KQ.then_k ?_
  replace hM := hM.pick [] rfl (by decide)
  exact fun a ha => ⟨y259, ha.less (less_cons rfl less_nil), hM, hF⟩
 rintro a w264 ⟨t263, ha, hM, hF⟩
 refine KC.app ha ?_
 clear ha
 unfold F_trans_Sound_j10 at hF
 refine KC.ret ?_
 have hE := Option.some.inj hF
 clear hF
 subst hE
 refine KQ.rets Try.results20 (RVs.cons (RV.tm rfl) RVs.nil) ?_
 exact ⟨_, rfl, rfl, hM⟩
end Go.Proofs.Ytcinagdkkclapaa
