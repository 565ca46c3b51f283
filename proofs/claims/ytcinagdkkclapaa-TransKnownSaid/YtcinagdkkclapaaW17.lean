/- Printed by a program of this claim: each call returns what the plain function of its name gives. -/
import Derived.Test.YtcinagdkkclapaaW1
import Derived.Test.YtcinagdkkclapaaW5
import Derived.Test.YtcinagdkkclapaaW11
import Derived.Test.YtcinagdkkclapaaW16
set_option linter.unusedVariables false
namespace Go.Proofs.Ytcinagdkkclapaa
open Go Go.Ox Go.RowKit
set_option maxRecDepth 100000 in
set_option maxHeartbeats 40000000 in
theorem c_ref07_Parse (w : World) (proto1 : Int) (b2 : ByteArray) (r : T_ref07_Segment × Int) (hF : F_ref07_Parse proto1 b2 = some r) :
  CallsR Try.prog 18 [v8 proto1, Value.string b2] w (fun v w' => v = .tuple #[.agg #[v8 r.1.f_Proto, v16 r.1.f_Src, v16 r.1.f_Dst, v32 r.1.f_Seq, v32 r.1.f_Ack, v8 r.1.f_Flags, v16 r.1.f_Window, v16 r.1.f_Urgent, Value.string r.1.f_Options, v8 r.1.f_Type, v8 r.1.f_Code, Value.string r.1.f_Data], vI r.2] ∧ Mem w [] w' []) := by
 refine calls_KC Try.func18 rfl Try.ntmps18 rfl ?_
 have hM := Mem.init w
 unfold F_ref07_Parse at hF
 refine sr fun Q3 hQ3 => ?_
 refine RL.eff (E.alloc hM ze30) rfl fun v w5 hv => ?_
 clear hM
 obtain ⟨g4, rfl, hM, hf⟩ := hv
 refine va rfl rfl ?_
 refine nt hQ3 ?_
 clear hQ3 Q3
 refine KC.seqH fun Q7 hQ7 => ?_
 refine sr fun Q8 hQ8 => ?_
 refine vm rfl rfl ?_
 refine obindE hF fun y9 hx10 hF => ?_
 refine RL.call Try.func25 bd25 rfl rfl (c_ref07_Head _ proto1 _ hx10) fun v w11 hv => ?_
 obtain ⟨rfl, hN12⟩ := hv
 replace hM := hM.call0 hN12
 refine RL.val (O.eql rfl rfl) rfl ?_
 refine nt hQ8 ?_
 clear hQ8 Q8
 refine KC.cond rfl (fun hc => ?_) (fun hc => ?_)
 ·rw [if_pos hc] at hF
  refine sr fun Q13 hQ13 => ?_
  refine RL.val (O.bld (cs := [v8 0, v16 0, v16 0, v32 0, v32 0, v8 0, v16 0, v16 0, Value.string ByteArray.empty, v8 0, v8 0, Value.string ByteArray.empty]) bt30 rfl (by kernel_rfl)) rfl ?_
  refine RL.effs (E.stB (j := 0) (off := 0) (vs := [v8 0, v16 0, v16 0, v32 0, v32 0, v8 0, v16 0, v16 0, Value.string ByteArray.empty, v8 0, v8 0, Value.string ByteArray.empty]) (cs' := [v8 0, v16 0, v16 0, v32 0, v32 0, v8 0, v16 0, v16 0, Value.string ByteArray.empty, v8 0, v8 0, Value.string ByteArray.empty]) hM rfl sz30 rfl (adds_eq [] rfl) rfl rfl (One.all rfl) rfl rfl) fun w14 hM1 => ?_
  clear hM
  have hM := hM1
  clear hM1
  refine va rfl rfl ?_
  refine nt hQ13 ?_
  clear hQ13 Q13
  refine KC.ret ?_
  refine KQ.thr hQ7 ?_
  clear hQ7 Q7
  have hE := Option.some.inj hF
  clear hF
  subst hE
  have hb15 := hM.bx (i := 0) rfl
  replace hM := hM.pick [] rfl (by decide)
  refine KQ.rets Try.results18 (RVs.cons (RV.cN (cs := [v8 0, v16 0, v16 0, v32 0, v32 0, v8 0, v16 0, v16 0, Value.string ByteArray.empty, v8 0, v8 0, Value.string ByteArray.empty]) rfl ag30 hb15) (RVs.cons (RV.tm rfl) RVs.nil)) ?_
  exact ⟨_, rfl, rfl, hM⟩
 rw [if_neg (ne_true hc)] at hF
 refine KC.skip ?_
 refine KQ.thn hQ7 ?_
 clear hQ7 Q7
 refine KC.seqH fun Q16 hQ16 => ?_
 refine sr fun Q17 hQ17 => ?_
 refine vm rfl rfl ?_
 refine RL.val (O.lens Try.underlying9 rfl) rfl ?_
 refine vm rfl rfl ?_
 refine obindE hF fun y18 hx19 hF => ?_
 refine RL.call Try.func25 bd25 rfl rfl (c_ref07_Head _ proto1 _ hx19) fun v w20 hv => ?_
 obtain ⟨rfl, hN21⟩ := hv
 replace hM := hM.call0 hN21
 refine RL.val (O.lss rfl rfl) rfl ?_
 refine nt hQ17 ?_
 clear hQ17 Q17
 refine KC.cond rfl (fun hc => ?_) (fun hc => ?_)
 ·rw [if_pos hc] at hF
  refine sr fun Q22 hQ22 => ?_
  refine RL.val (O.bld (cs := [v8 0, v16 0, v16 0, v32 0, v32 0, v8 0, v16 0, v16 0, Value.string ByteArray.empty, v8 0, v8 0, Value.string ByteArray.empty]) bt30 rfl (by kernel_rfl)) rfl ?_
  refine RL.effs (E.stB (j := 0) (off := 0) (vs := [v8 0, v16 0, v16 0, v32 0, v32 0, v8 0, v16 0, v16 0, Value.string ByteArray.empty, v8 0, v8 0, Value.string ByteArray.empty]) (cs' := [v8 0, v16 0, v16 0, v32 0, v32 0, v8 0, v16 0, v16 0, Value.string ByteArray.empty, v8 0, v8 0, Value.string ByteArray.empty]) hM rfl sz30 rfl (adds_eq [] rfl) rfl rfl (One.all rfl) rfl rfl) fun w23 hM1 => ?_
  clear hM
  have hM := hM1
  clear hM1
  refine va rfl rfl ?_
  refine nt hQ22 ?_
  clear hQ22 Q22
  refine KC.ret ?_
  refine KQ.thr hQ16 ?_
  clear hQ16 Q16
  have hE := Option.some.inj hF
  clear hF
  subst hE
  have hb24 := hM.bx (i := 0) rfl
  replace hM := hM.pick [] rfl (by decide)
  refine KQ.rets Try.results18 (RVs.cons (RV.cN (cs := [v8 0, v16 0, v16 0, v32 0, v32 0, v8 0, v16 0, v16 0, Value.string ByteArray.empty, v8 0, v8 0, Value.string ByteArray.empty]) rfl ag30 hb24) (RVs.cons (RV.tm rfl) RVs.nil)) ?_
  exact ⟨_, rfl, rfl, hM⟩
 rw [if_neg (ne_true hc)] at hF
 refine KC.skip ?_
 refine KQ.thn hQ16 ?_
 clear hQ16 Q16
 refine KC.seqH fun Q25 hQ25 => ?_
 refine sr fun Q26 hQ26 => ?_
 refine vm rfl rfl ?_
 refine RL.val (O.lens Try.underlying9 rfl) rfl ?_
 refine RL.val (O.gtr rfl rfl) rfl ?_
 refine nt hQ26 ?_
 clear hQ26 Q26
 refine KC.cond rfl (fun hc => ?_) (fun hc => ?_)
 ·rw [if_pos hc] at hF
  refine sr fun Q27 hQ27 => ?_
  refine RL.val (O.bld (cs := [v8 0, v16 0, v16 0, v32 0, v32 0, v8 0, v16 0, v16 0, Value.string ByteArray.empty, v8 0, v8 0, Value.string ByteArray.empty]) bt30 rfl (by kernel_rfl)) rfl ?_
  refine RL.effs (E.stB (j := 0) (off := 0) (vs := [v8 0, v16 0, v16 0, v32 0, v32 0, v8 0, v16 0, v16 0, Value.string ByteArray.empty, v8 0, v8 0, Value.string ByteArray.empty]) (cs' := [v8 0, v16 0, v16 0, v32 0, v32 0, v8 0, v16 0, v16 0, Value.string ByteArray.empty, v8 0, v8 0, Value.string ByteArray.empty]) hM rfl sz30 rfl (adds_eq [] rfl) rfl rfl (One.all rfl) rfl rfl) fun w28 hM1 => ?_
  clear hM
  have hM := hM1
  clear hM1
  refine va rfl rfl ?_
  refine nt hQ27 ?_
  clear hQ27 Q27
  refine KC.ret ?_
  refine KQ.thr hQ25 ?_
  clear hQ25 Q25
  have hE := Option.some.inj hF
  clear hF
  subst hE
  have hb29 := hM.bx (i := 0) rfl
  replace hM := hM.pick [] rfl (by decide)
  refine KQ.rets Try.results18 (RVs.cons (RV.cN (cs := [v8 0, v16 0, v16 0, v32 0, v32 0, v8 0, v16 0, v16 0, Value.string ByteArray.empty, v8 0, v8 0, Value.string ByteArray.empty]) rfl ag30 hb29) (RVs.cons (RV.tm rfl) RVs.nil)) ?_
  exact ⟨_, rfl, rfl, hM⟩
 rw [if_neg (ne_true hc)] at hF
 refine KC.skip ?_
 refine KQ.thn hQ25 ?_
 clear hQ25 Q25
 refine sr fun Q30 hQ30 => ?_
 refine vm rfl rfl ?_
 refine RL.val (O.bld (cs := [v8 proto1, v16 0, v16 0, v32 0, v32 0, v8 0, v16 0, v16 0, Value.string ByteArray.empty, v8 0, v8 0, Value.string ByteArray.empty]) bt30 rfl (by kernel_rfl)) rfl ?_
 refine RL.eff (E.alloc hM ze30) rfl fun v w32 hv => ?_
 clear hM
 obtain ⟨g31, rfl, hM, hf⟩ := hv
 refine RL.effs (E.stB (j := 1) (off := 0) (vs := [v8 proto1, v16 0, v16 0, v32 0, v32 0, v8 0, v16 0, v16 0, Value.string ByteArray.empty, v8 0, v8 0, Value.string ByteArray.empty]) (cs' := [v8 proto1, v16 0, v16 0, v32 0, v32 0, v8 0, v16 0, v16 0, Value.string ByteArray.empty, v8 0, v8 0, Value.string ByteArray.empty]) hM rfl sz30 rfl (adds_eq [] rfl) rfl rfl (One.all rfl) rfl rfl) fun w34 hM1 => ?_
 clear hM
 have hM := hM1
 clear hM1
 refine nt hQ30 ?_
 clear hQ30 Q30
 refine KC.cut (fun a w132 => ∃ (s121 : Int) (s122 : Int) (s123 : Int) (s124 : Int) (s125 : Int) (s126 : Int) (s127 : Int) (s128 : ByteArray) (s129 : Int) (s130 : Int) (s131 : ByteArray), Kn 104 [(4, .pointer (some ⟨g4, 0, none⟩)), (6, .pointer (some ⟨g31, 0, none⟩))] a ∧ Mem w [] w132 [.box g4 30 [v8 0, v16 0, v16 0, v32 0, v32 0, v8 0, v16 0, v16 0, Value.string ByteArray.empty, v8 0, v8 0, Value.string ByteArray.empty], .box g31 30 [v8 proto1, v16 s121, v16 s122, v32 s123, v32 s124, v8 s125, v16 s126, v16 s127, Value.string s128, v8 s129, v8 s130, Value.string s131]] ∧ F_ref07_Parse_j1 proto1 s121 s122 s123 s124 s125 s126 s127 s128 s129 s130 s131 = some r) ?_ ?_
 ·refine sr fun Q35 hQ35 => ?_
  refine vm rfl rfl ?_
  refine nt hQ35 ?_
  clear hQ35 Q35
  refine KC.block ?_
  refine sr fun Q36 hQ36 => ?_
  refine RL.val (O.eql rfl rfl) rfl ?_
  refine va rfl rfl ?_
  refine nt hQ36 ?_
  clear hQ36 Q36
  refine KC.cond rfl (fun hc => ?_) (fun hc => ?_)
  ·rw [if_pos hc] at hF
   refine sr fun Q37 hQ37 => ?_
   refine vm rfl rfl ?_
   refine obindE hF fun xv38 hx39 hF => ?_
   refine RL.val (O.idxS Try.underlying9 hx39 rfl rfl) rfl ?_
   refine RL.val (O.conv un5 Try.underlying3 rfl) rfl ?_
   refine RL.val (O.quo rfl rfl (by decide)) rfl ?_
   refine RL.val (O.mul rfl rfl) rfl ?_
   refine va rfl rfl ?_
   refine nt hQ37 ?_
   clear hQ37 Q37
   refine KC.seqH fun Q40 hQ40 => ?_
   refine sr fun Q41 hQ41 => ?_
   refine vm rfl rfl ?_
   refine RL.val (O.lss rfl rfl) rfl ?_
   refine nt hQ41 ?_
   clear hQ41 Q41
   refine KC.cond rfl (fun hc => ?_) (fun hc => ?_)
   ·rw [if_pos hc] at hF
    refine sr fun Q42 hQ42 => ?_
    refine RL.val (O.bld (cs := [v8 0, v16 0, v16 0, v32 0, v32 0, v8 0, v16 0, v16 0, Value.string ByteArray.empty, v8 0, v8 0, Value.string ByteArray.empty]) bt30 rfl (by kernel_rfl)) rfl ?_
    refine RL.effs (E.stB (j := 0) (off := 0) (vs := [v8 0, v16 0, v16 0, v32 0, v32 0, v8 0, v16 0, v16 0, Value.string ByteArray.empty, v8 0, v8 0, Value.string ByteArray.empty]) (cs' := [v8 0, v16 0, v16 0, v32 0, v32 0, v8 0, v16 0, v16 0, Value.string ByteArray.empty, v8 0, v8 0, Value.string ByteArray.empty]) hM rfl sz30 rfl (adds_eq [] rfl) rfl rfl (One.all rfl) rfl rfl) fun w43 hM1 => ?_
    clear hM
    have hM := hM1
    clear hM1
    refine va rfl rfl ?_
    refine nt hQ42 ?_
    clear hQ42 Q42
    refine KC.ret ?_
    refine KQ.thr hQ40 ?_
    clear hQ40 Q40
    refine KQ.blk_r ?_
    refine KQ.then_r ?_
    have hE := Option.some.inj hF
    clear hF
    subst hE
    have hb44 := hM.bx (i := 0) rfl
    replace hM := hM.pick [] rfl (by decide)
    refine KQ.rets Try.results18 (RVs.cons (RV.cN (cs := [v8 0, v16 0, v16 0, v32 0, v32 0, v8 0, v16 0, v16 0, Value.string ByteArray.empty, v8 0, v8 0, Value.string ByteArray.empty]) rfl ag30 hb44) (RVs.cons (RV.tm rfl) RVs.nil)) ?_
    exact ⟨_, rfl, rfl, hM⟩
   rw [if_neg (ne_true hc)] at hF
   refine KC.skip ?_
   refine KQ.thn hQ40 ?_
   clear hQ40 Q40
   refine KC.seqH fun Q45 hQ45 => ?_
   refine sr fun Q46 hQ46 => ?_
   refine vm rfl rfl ?_
   refine RL.val (O.lens Try.underlying9 rfl) rfl ?_
   refine vm rfl rfl ?_
   refine RL.val (O.lss rfl rfl) rfl ?_
   refine nt hQ46 ?_
   clear hQ46 Q46
   refine KC.cond rfl (fun hc => ?_) (fun hc => ?_)
   ·rw [if_pos hc] at hF
    refine sr fun Q47 hQ47 => ?_
    refine RL.val (O.bld (cs := [v8 0, v16 0, v16 0, v32 0, v32 0, v8 0, v16 0, v16 0, Value.string ByteArray.empty, v8 0, v8 0, Value.string ByteArray.empty]) bt30 rfl (by kernel_rfl)) rfl ?_
    refine RL.effs (E.stB (j := 0) (off := 0) (vs := [v8 0, v16 0, v16 0, v32 0, v32 0, v8 0, v16 0, v16 0, Value.string ByteArray.empty, v8 0, v8 0, Value.string ByteArray.empty]) (cs' := [v8 0, v16 0, v16 0, v32 0, v32 0, v8 0, v16 0, v16 0, Value.string ByteArray.empty, v8 0, v8 0, Value.string ByteArray.empty]) hM rfl sz30 rfl (adds_eq [] rfl) rfl rfl (One.all rfl) rfl rfl) fun w48 hM1 => ?_
    clear hM
    have hM := hM1
    clear hM1
    refine va rfl rfl ?_
    refine nt hQ47 ?_
    clear hQ47 Q47
    refine KC.ret ?_
    refine KQ.thr hQ45 ?_
    clear hQ45 Q45
    refine KQ.blk_r ?_
    refine KQ.then_r ?_
    have hE := Option.some.inj hF
    clear hF
    subst hE
    have hb49 := hM.bx (i := 0) rfl
    replace hM := hM.pick [] rfl (by decide)
    refine KQ.rets Try.results18 (RVs.cons (RV.cN (cs := [v8 0, v16 0, v16 0, v32 0, v32 0, v8 0, v16 0, v16 0, Value.string ByteArray.empty, v8 0, v8 0, Value.string ByteArray.empty]) rfl ag30 hb49) (RVs.cons (RV.tm rfl) RVs.nil)) ?_
    exact ⟨_, rfl, rfl, hM⟩
   rw [if_neg (ne_true hc)] at hF
   refine KC.skip ?_
   refine KQ.thn hQ45 ?_
   clear hQ45 Q45
   replace hM := hM.drewN 1
   refine KC.draw [] [28] [2, 5, 8, 11, 16, 19, 28] [0, 1, 3, 4, 6, 7, 9, 10, 12, 13, 15, 17, 18, 20, 21, 22, 23, 24, 25, 26] (.ofList [0, 1, 4, 7, 10, 13, 14, 15, 18, 21, 22, 23, 24, 25, 26, 2, 3, 5, 6, 8, 9, 11, 12, 16, 17, 19, 20, 27, 28]) moP (by kernel_rfl) ?_
   refine RD.p rfl rfl rfl rfl (fun w' => O.move rfl) ?_
   refine RD.p rfl rfl rfl rfl (fun w' => O.move rfl) ?_
   refine RD.p rfl rfl rfl rfl (fun w' => O.move rfl) ?_
   refine RD.p rfl rfl rfl rfl (fun w' => O.move rfl) ?_
   refine RD.p rfl rfl rfl rfl (fun w' => O.move rfl) ?_
   refine RD.p rfl rfl rfl rfl (fun w' => O.move rfl) ?_
   refine obindE hF fun xv50 hx51 hF => ?_
   refine RD.q rfl rfl rfl rfl (fun w' hf => O.idxS Try.underlying9 hx51 rfl rfl) ?_
   refine RD.p rfl rfl rfl rfl (fun w' => O.move rfl) ?_
   refine RD.p rfl rfl rfl rfl (fun w' => O.move rfl) ?_
   refine RD.p rfl rfl rfl rfl (fun w' => O.move rfl) ?_
   refine RD.p rfl rfl rfl rfl (fun w' => O.move rfl) ?_
   refine obindE hF fun cut52 hy53 hF => ?_
   refine RD.p rfl rfl rfl rfl (fun w' => O.cutS Try.underlying9 hy53 rfl rfl rfl) ?_
   refine RD.p rfl rfl rfl rfl (fun w' => O.move rfl) ?_
   refine RD.p rfl rfl rfl rfl (fun w' => O.move rfl) ?_
   refine obindE hF fun cut54 hy55 hF => ?_
   refine RD.p rfl rfl rfl rfl (fun w' => O.cutSl Try.underlying9 hy55 rfl rfl) ?_
   refine obindE hF fun y56 hx57 hF => ?_
   refine RD.mcall rfl rfl trivial Try.func38 bd38 rfl rfl (c_ref07_number _ b2 0 2 _ hx57) fun v w58 hv => ?_
   obtain ⟨rfl, hN59⟩ := hv
   refine ⟨fun _ => hN59.fut, ?_⟩
   replace hM := hM.call0 hN59
   refine RD.p rfl rfl rfl rfl (fun w' => O.conv un76 Try.underlying22 rfl) ?_
   refine obindE hF fun y60 hx61 hF => ?_
   refine RD.mcall rfl rfl trivial Try.func38 bd38 rfl rfl (c_ref07_number _ b2 2 2 _ hx61) fun v w62 hv => ?_
   obtain ⟨rfl, hN63⟩ := hv
   refine ⟨fun _ => hN63.fut, ?_⟩
   replace hM := hM.call0 hN63
   refine RD.p rfl rfl rfl rfl (fun w' => O.conv un76 Try.underlying22 rfl) ?_
   refine obindE hF fun y64 hx65 hF => ?_
   refine RD.mcall rfl rfl trivial Try.func38 bd38 rfl rfl (c_ref07_number _ b2 4 4 _ hx65) fun v w66 hv => ?_
   obtain ⟨rfl, hN67⟩ := hv
   refine ⟨fun _ => hN67.fut, ?_⟩
   replace hM := hM.call0 hN67
   refine RD.p rfl rfl rfl rfl (fun w' => O.conv un76 Try.underlying23 rfl) ?_
   refine obindE hF fun y68 hx69 hF => ?_
   refine RD.mcall rfl rfl trivial Try.func38 bd38 rfl rfl (c_ref07_number _ b2 8 4 _ hx69) fun v w70 hv => ?_
   obtain ⟨rfl, hN71⟩ := hv
   refine ⟨fun _ => hN71.fut, ?_⟩
   replace hM := hM.call0 hN71
   refine RD.p rfl rfl rfl rfl (fun w' => O.conv un76 Try.underlying23 rfl) ?_
   refine obindE hF fun y72 hx73 hF => ?_
   refine RD.mcall rfl rfl trivial Try.func38 bd38 rfl rfl (c_ref07_number _ b2 14 2 _ hx73) fun v w74 hv => ?_
   obtain ⟨rfl, hN75⟩ := hv
   refine ⟨fun _ => hN75.fut, ?_⟩
   replace hM := hM.call0 hN75
   refine RD.p rfl rfl rfl rfl (fun w' => O.conv un76 Try.underlying22 rfl) ?_
   refine obindE hF fun y76 hx77 hF => ?_
   refine RD.mcall rfl rfl trivial Try.func38 bd38 rfl rfl (c_ref07_number _ b2 18 2 _ hx77) fun v w78 hv => ?_
   obtain ⟨rfl, hN79⟩ := hv
   refine ⟨fun _ => hN79.fut, ?_⟩
   replace hM := hM.call0 hN79
   refine RD.p rfl rfl rfl rfl (fun w' => O.conv un76 Try.underlying22 rfl) ?_
   refine RD.q rfl rfl rfl rfl (fun w' hf => O.bld (cs := [v8 proto1, v16 (IntKind.u16.wrap y56), v16 (IntKind.u16.wrap y60), v32 (IntKind.u32.wrap y64), v32 (IntKind.u32.wrap y68), v8 xv50, v16 (IntKind.u16.wrap y72), v16 (IntKind.u16.wrap y76), Value.string cut52, v8 0, v8 0, Value.string cut54]) bt30 rfl (by kernel_rfl)) ?_
   refine RD.meffs rfl rfl rfl (E.stB (j := 1) (off := 0) (vs := [v8 proto1, v16 (IntKind.u16.wrap y56), v16 (IntKind.u16.wrap y60), v32 (IntKind.u32.wrap y64), v32 (IntKind.u32.wrap y68), v8 xv50, v16 (IntKind.u16.wrap y72), v16 (IntKind.u16.wrap y76), Value.string cut52, v8 0, v8 0, Value.string cut54]) (cs' := [v8 proto1, v16 (IntKind.u16.wrap y56), v16 (IntKind.u16.wrap y60), v32 (IntKind.u32.wrap y64), v32 (IntKind.u32.wrap y68), v8 xv50, v16 (IntKind.u16.wrap y72), v16 (IntKind.u16.wrap y76), Value.string cut52, v8 0, v8 0, Value.string cut54]) hM rfl sz30 rfl (adds_eq [] rfl) rfl rfl (One.all rfl) rfl rfl) fun w80 hM1 => ?_
   clear hM
   have hM := hM1
   clear hM1
   refine RD.nil ?_
   refine KQ.blk_n ?_
   refine KQ.then_k ?_
   exact fun a ha => ⟨(IntKind.u16.wrap y56), (IntKind.u16.wrap y60), (IntKind.u32.wrap y64), (IntKind.u32.wrap y68), xv50, (IntKind.u16.wrap y72), (IntKind.u16.wrap y76), cut52, 0, 0, cut54, ha.less (less_cons rfl (less_cons rfl less_nil)), hM, hF⟩
  rw [if_neg (ne_true hc)] at hF
  refine sr fun Q81 hQ81 => ?_
  refine RL.val (O.eql rfl rfl) rfl ?_
  refine va rfl rfl ?_
  refine nt hQ81 ?_
  clear hQ81 Q81
  refine KC.cond rfl (fun hc => ?_) (fun hc => ?_)
  ·rw [if_pos hc] at hF
   refine sr fun Q82 hQ82 => ?_
   refine vm rfl rfl ?_
   refine obindE hF fun y83 hx84 hF => ?_
   refine RL.call Try.func38 bd38 rfl rfl (c_ref07_number _ b2 4 2 _ hx84) fun v w85 hv => ?_
   obtain ⟨rfl, hN86⟩ := hv
   replace hM := hM.call0 hN86
   refine RL.val (O.conv un76 Try.underlying3 rfl) rfl ?_
   refine va rfl rfl ?_
   refine nt hQ82 ?_
   clear hQ82 Q82
   refine KC.seqH fun Q87 hQ87 => ?_
   refine sr fun Q88 hQ88 => ?_
   refine vm rfl rfl ?_
   refine RL.val (O.lss rfl rfl) rfl ?_
   refine nt hQ88 ?_
   clear hQ88 Q88
   refine KC.cond rfl (fun hc => ?_) (fun hc => ?_)
   ·rw [if_pos hc] at hF
    refine sr fun Q89 hQ89 => ?_
    refine RL.val (O.bld (cs := [v8 0, v16 0, v16 0, v32 0, v32 0, v8 0, v16 0, v16 0, Value.string ByteArray.empty, v8 0, v8 0, Value.string ByteArray.empty]) bt30 rfl (by kernel_rfl)) rfl ?_
    refine RL.effs (E.stB (j := 0) (off := 0) (vs := [v8 0, v16 0, v16 0, v32 0, v32 0, v8 0, v16 0, v16 0, Value.string ByteArray.empty, v8 0, v8 0, Value.string ByteArray.empty]) (cs' := [v8 0, v16 0, v16 0, v32 0, v32 0, v8 0, v16 0, v16 0, Value.string ByteArray.empty, v8 0, v8 0, Value.string ByteArray.empty]) hM rfl sz30 rfl (adds_eq [] rfl) rfl rfl (One.all rfl) rfl rfl) fun w90 hM1 => ?_
    clear hM
    have hM := hM1
    clear hM1
    refine va rfl rfl ?_
    refine nt hQ89 ?_
    clear hQ89 Q89
    refine KC.ret ?_
    refine KQ.thr hQ87 ?_
    clear hQ87 Q87
    refine KQ.blk_r ?_
    refine KQ.then_r ?_
    have hE := Option.some.inj hF
    clear hF
    subst hE
    have hb91 := hM.bx (i := 0) rfl
    replace hM := hM.pick [] rfl (by decide)
    refine KQ.rets Try.results18 (RVs.cons (RV.cN (cs := [v8 0, v16 0, v16 0, v32 0, v32 0, v8 0, v16 0, v16 0, Value.string ByteArray.empty, v8 0, v8 0, Value.string ByteArray.empty]) rfl ag30 hb91) (RVs.cons (RV.tm rfl) RVs.nil)) ?_
    exact ⟨_, rfl, rfl, hM⟩
   rw [if_neg (ne_true hc)] at hF
   refine KC.skip ?_
   refine KQ.thn hQ87 ?_
   clear hQ87 Q87
   refine KC.seqH fun Q92 hQ92 => ?_
   refine sr fun Q93 hQ93 => ?_
   refine vm rfl rfl ?_
   refine RL.val (O.lens Try.underlying9 rfl) rfl ?_
   refine vm rfl rfl ?_
   refine RL.val (O.lss rfl rfl) rfl ?_
   refine nt hQ93 ?_
   clear hQ93 Q93
   refine KC.cond rfl (fun hc => ?_) (fun hc => ?_)
   ·rw [if_pos hc] at hF
    refine sr fun Q94 hQ94 => ?_
    refine RL.val (O.bld (cs := [v8 0, v16 0, v16 0, v32 0, v32 0, v8 0, v16 0, v16 0, Value.string ByteArray.empty, v8 0, v8 0, Value.string ByteArray.empty]) bt30 rfl (by kernel_rfl)) rfl ?_
    refine RL.effs (E.stB (j := 0) (off := 0) (vs := [v8 0, v16 0, v16 0, v32 0, v32 0, v8 0, v16 0, v16 0, Value.string ByteArray.empty, v8 0, v8 0, Value.string ByteArray.empty]) (cs' := [v8 0, v16 0, v16 0, v32 0, v32 0, v8 0, v16 0, v16 0, Value.string ByteArray.empty, v8 0, v8 0, Value.string ByteArray.empty]) hM rfl sz30 rfl (adds_eq [] rfl) rfl rfl (One.all rfl) rfl rfl) fun w95 hM1 => ?_
    clear hM
    have hM := hM1
    clear hM1
    refine va rfl rfl ?_
    refine nt hQ94 ?_
    clear hQ94 Q94
    refine KC.ret ?_
    refine KQ.thr hQ92 ?_
    clear hQ92 Q92
    refine KQ.blk_r ?_
    refine KQ.then_r ?_
    have hE := Option.some.inj hF
    clear hF
    subst hE
    have hb96 := hM.bx (i := 0) rfl
    replace hM := hM.pick [] rfl (by decide)
    refine KQ.rets Try.results18 (RVs.cons (RV.cN (cs := [v8 0, v16 0, v16 0, v32 0, v32 0, v8 0, v16 0, v16 0, Value.string ByteArray.empty, v8 0, v8 0, Value.string ByteArray.empty]) rfl ag30 hb96) (RVs.cons (RV.tm rfl) RVs.nil)) ?_
    exact ⟨_, rfl, rfl, hM⟩
   rw [if_neg (ne_true hc)] at hF
   refine KC.skip ?_
   refine KQ.thn hQ92 ?_
   clear hQ92 Q92
   refine sr fun Q97 hQ97 => ?_
   refine vm rfl rfl ?_
   refine obindE hF fun y98 hx99 hF => ?_
   refine RL.call Try.func38 bd38 rfl rfl (c_ref07_number _ b2 0 2 _ hx99) fun v w100 hv => ?_
   obtain ⟨rfl, hN101⟩ := hv
   replace hM := hM.call0 hN101
   refine RL.val (O.conv un76 Try.underlying22 rfl) rfl ?_
   refine RL.val (O.fldA fl30_1 (by decide) rfl) rfl ?_
   refine RL.effs (E.stB (j := 1) (off := 1) (vs := [v16 (IntKind.u16.wrap y98)]) (cs' := [v8 proto1, v16 (IntKind.u16.wrap y98), v16 0, v32 0, v32 0, v8 0, v16 0, v16 0, Value.string ByteArray.empty, v8 0, v8 0, Value.string ByteArray.empty]) hM rfl sz22 rfl (adds_eq [1] rfl) rfl rfl (One.all rfl) rfl rfl) fun w102 hM1 => ?_
   clear hM
   have hM := hM1
   clear hM1
   refine nt hQ97 ?_
   clear hQ97 Q97
   refine sr fun Q103 hQ103 => ?_
   refine vm rfl rfl ?_
   refine obindE hF fun y104 hx105 hF => ?_
   refine RL.call Try.func38 bd38 rfl rfl (c_ref07_number _ b2 2 2 _ hx105) fun v w106 hv => ?_
   obtain ⟨rfl, hN107⟩ := hv
   replace hM := hM.call0 hN107
   refine RL.val (O.conv un76 Try.underlying22 rfl) rfl ?_
   refine RL.val (O.fldA fl30_2 (by decide) rfl) rfl ?_
   refine RL.effs (E.stB (j := 1) (off := 2) (vs := [v16 (IntKind.u16.wrap y104)]) (cs' := [v8 proto1, v16 (IntKind.u16.wrap y98), v16 (IntKind.u16.wrap y104), v32 0, v32 0, v8 0, v16 0, v16 0, Value.string ByteArray.empty, v8 0, v8 0, Value.string ByteArray.empty]) hM rfl sz22 rfl (adds_eq [2] rfl) rfl rfl (One.all rfl) rfl rfl) fun w108 hM1 => ?_
   clear hM
   have hM := hM1
   clear hM1
   refine nt hQ103 ?_
   clear hQ103 Q103
   refine KC.region ?_
   refine vm rfl rfl ?_
   refine vm rfl rfl ?_
   refine obindE hF fun cut109 hy110 hF => ?_
   refine RL.val (O.cutS Try.underlying9 hy110 rfl rfl rfl) rfl ?_
   refine RL.val (O.fldA fl30_11 (by decide) rfl) rfl ?_
   refine RL.effs (E.stB (j := 1) (off := 11) (vs := [Value.string cut109]) (cs' := [v8 proto1, v16 (IntKind.u16.wrap y98), v16 (IntKind.u16.wrap y104), v32 0, v32 0, v8 0, v16 0, v16 0, Value.string ByteArray.empty, v8 0, v8 0, Value.string cut109]) hM rfl sz9 rfl (adds_eq [11] rfl) rfl rfl (One.all rfl) rfl rfl) fun w111 hM1 => ?_
   clear hM
   have hM := hM1
   clear hM1
   refine RL.nil ?_
   refine KQ.blk_n ?_
   refine KQ.then_k ?_
   exact fun a ha => ⟨(IntKind.u16.wrap y98), (IntKind.u16.wrap y104), 0, 0, 0, 0, 0, ByteArray.empty, 0, 0, cut109, ha.less (less_cons rfl (less_cons rfl less_nil)), hM, hF⟩
  rw [if_neg (ne_true hc)] at hF
  refine sr fun Q112 hQ112 => ?_
  refine vm rfl rfl ?_
  refine obindE hF fun xv113 hx114 hF => ?_
  refine RL.val (O.idxS Try.underlying9 hx114 rfl rfl) rfl ?_
  refine RL.val (O.fldA fl30_9 (by decide) rfl) rfl ?_
  refine RL.effs (E.stB (j := 1) (off := 9) (vs := [v8 xv113]) (cs' := [v8 proto1, v16 0, v16 0, v32 0, v32 0, v8 0, v16 0, v16 0, Value.string ByteArray.empty, v8 xv113, v8 0, Value.string ByteArray.empty]) hM rfl sz5 rfl (adds_eq [9] rfl) rfl rfl (One.all rfl) rfl rfl) fun w115 hM1 => ?_
  clear hM
  have hM := hM1
  clear hM1
  refine nt hQ112 ?_
  clear hQ112 Q112
  refine sr fun Q116 hQ116 => ?_
  refine vm rfl rfl ?_
  refine obindE hF fun xv117 hx118 hF => ?_
  refine RL.val (O.idxS Try.underlying9 hx118 rfl rfl) rfl ?_
  refine RL.val (O.fldA fl30_10 (by decide) rfl) rfl ?_
  refine RL.effs (E.stB (j := 1) (off := 10) (vs := [v8 xv117]) (cs' := [v8 proto1, v16 0, v16 0, v32 0, v32 0, v8 0, v16 0, v16 0, Value.string ByteArray.empty, v8 xv113, v8 xv117, Value.string ByteArray.empty]) hM rfl sz5 rfl (adds_eq [10] rfl) rfl rfl (One.all rfl) rfl rfl) fun w119 hM1 => ?_
  clear hM
  have hM := hM1
  clear hM1
  refine nt hQ116 ?_
  clear hQ116 Q116
  refine KC.region ?_
  refine vm rfl rfl ?_
  refine obindE hF fun cut120 hy121 hF => ?_
  refine RL.val (O.cutSl Try.underlying9 hy121 rfl rfl) rfl ?_
  refine RL.val (O.fldA fl30_11 (by decide) rfl) rfl ?_
  refine RL.effs (E.stB (j := 1) (off := 11) (vs := [Value.string cut120]) (cs' := [v8 proto1, v16 0, v16 0, v32 0, v32 0, v8 0, v16 0, v16 0, Value.string ByteArray.empty, v8 xv113, v8 xv117, Value.string cut120]) hM rfl sz9 rfl (adds_eq [11] rfl) rfl rfl (One.all rfl) rfl rfl) fun w122 hM1 => ?_
  clear hM
  have hM := hM1
  clear hM1
  refine RL.nil ?_
  refine KQ.blk_n ?_
  refine KQ.then_k ?_
  exact fun a ha => ⟨0, 0, 0, 0, 0, 0, 0, ByteArray.empty, xv113, xv117, cut120, ha.less (less_cons rfl (less_cons rfl less_nil)), hM, hF⟩
 rintro a w132 ⟨s121, s122, s123, s124, s125, s126, s127, s128, s129, s130, s131, ha, hM, hF⟩
 refine KC.app ha ?_
 clear ha
 unfold F_ref07_Parse_j1 at hF
 refine sr fun Q133 hQ133 => ?_
 refine RL.val (O.loadN (cs := [v8 proto1, v16 s121, v16 s122, v32 s123, v32 s124, v8 s125, v16 s126, v16 s127, Value.string s128, v8 s129, v8 s130, Value.string s131]) ag30 rfl (Cs.addsN [] ((hM.bx (i := 1) rfl)) rfl)) rfl ?_
 refine RL.effs (E.stB (j := 0) (off := 0) (vs := [v8 proto1, v16 s121, v16 s122, v32 s123, v32 s124, v8 s125, v16 s126, v16 s127, Value.string s128, v8 s129, v8 s130, Value.string s131]) (cs' := [v8 proto1, v16 s121, v16 s122, v32 s123, v32 s124, v8 s125, v16 s126, v16 s127, Value.string s128, v8 s129, v8 s130, Value.string s131]) hM rfl sz30 rfl (adds_eq [] rfl) rfl rfl (One.all rfl) rfl rfl) fun w134 hM1 => ?_
 clear hM
 have hM := hM1
 clear hM1
 refine va rfl rfl ?_
 refine nt hQ133 ?_
 clear hQ133 Q133
 refine KC.ret ?_
 have hE := Option.some.inj hF
 clear hF
 subst hE
 have hb135 := hM.bx (i := 0) rfl
 replace hM := hM.pick [] rfl (by decide)
 refine KQ.rets Try.results18 (RVs.cons (RV.cN (cs := [v8 proto1, v16 s121, v16 s122, v32 s123, v32 s124, v8 s125, v16 s126, v16 s127, Value.string s128, v8 s129, v8 s130, Value.string s131]) rfl ag30 hb135) (RVs.cons (RV.tm rfl) RVs.nil)) ?_
 exact ⟨_, rfl, rfl, hM⟩
set_option maxRecDepth 100000 in
set_option maxHeartbeats 40000000 in
theorem c_sum_Whole (w : World) (A2 : Option Addr) (c3 : Nat) (lv1 : List (List Int)) (hr4 : Rds [] w A2 c3 (eI .u8) 1 lv1) (r : Bool) (hF : F_sum_Whole lv1 = some r) :
  CallsR Try.prog 40 [.slice A2 (lv1).length c3] w (fun v w' => v = vB r ∧ Mem w [] w' []) := by
 refine calls_KC Try.func40 rfl Try.ntmps40 rfl ?_
 have hM := Mem.init w
 unfold F_sum_Whole at hF
 refine sr fun Q5 hQ5 => ?_
 refine va rfl rfl ?_
 refine nt hQ5 ?_
 clear hQ5 Q5
 refine sr fun Q6 hQ6 => ?_
 refine vm rfl rfl ?_
 refine obindE hF fun y7 hx8 hF => ?_
 refine RL.call Try.func34 bd34 rfl rfl (c_sum_Of _ _ _ lv1 (hr4.chg hM.chg) _ hx8) fun v w9 hv => ?_
 obtain ⟨rfl, hN10⟩ := hv
 replace hM := hM.call0 hN10
 refine va rfl rfl ?_
 refine nt hQ6 ?_
 clear hQ6 Q6
 refine KC.cut (fun a w12 => ∃ (t11 : Bool), Kn 12 [(2, vB t11)] a ∧ Mem w [] w12 [] ∧ F_sum_Whole_j1 t11 = some r) ?_ ?_
 ·refine KC.region ?_
  refine vm rfl rfl ?_
  refine RL.val (O.eql rfl rfl) rfl ?_
  refine vm rfl rfl ?_
  refine RL.bcase (t := 8) rfl (fun hc => ?_) (fun hc => ?_)
  ·rw [if_pos hc] at hF
   refine RL.gskip rfl rfl rfl rfl ?_
   refine RL.gskip rfl rfl rfl rfl ?_
   refine RL.val (O.pickt rfl rfl) rfl ?_
   refine va rfl rfl ?_
   refine RL.nil ?_
   refine KQ.then_k ?_
   exact fun a ha => ⟨true, ha.less (less_cons rfl less_nil), hM, hF⟩
  rw [if_neg (ne_true hc)] at hF
  refine RL.gval rfl rfl (O.move rfl) rfl ?_
  refine RL.gval rfl rfl (O.eql rfl rfl) rfl ?_
  refine RL.val (O.pickf rfl rfl) rfl ?_
  refine va rfl rfl ?_
  refine RL.nil ?_
  refine KQ.then_k ?_
  exact fun a ha => ⟨(y7 == 65535), ha.less (less_cons rfl less_nil), hM, hF⟩
 rintro a w12 ⟨t11, ha, hM, hF⟩
 refine KC.app ha ?_
 clear ha
 unfold F_sum_Whole_j1 at hF
 refine KC.ret ?_
 have hE := Option.some.inj hF
 clear hF
 subst hE
 refine KQ.rets Try.results40 (RVs.cons (RV.tm rfl) RVs.nil) ?_
 exact ⟨_, rfl, rfl, hM⟩
end Go.Proofs.Ytcinagdkkclapaa
