/- Printed by a program of this claim: each call returns what the plain function of its name gives. -/
import Derived.Test.YtcinagdkkclapaaW1
import Derived.Test.YtcinagdkkclapaaW12
set_option linter.unusedVariables false
namespace Go.Proofs.Ytcinagdkkclapaa
open Go Go.Ox Go.RowKit
set_option maxRecDepth 100000 in
set_option maxHeartbeats 40000000 in
theorem c_ref07_stands (w : World) (s1 : T_ref07_Segment) (sum2 : Int) (r : ByteArray) (hF : F_ref07_stands s1 sum2 = some r) :
  CallsR Try.prog 29 [.agg #[v8 s1.f_Proto, v16 s1.f_Src, v16 s1.f_Dst, v32 s1.f_Seq, v32 s1.f_Ack, v8 s1.f_Flags, v16 s1.f_Window, v16 s1.f_Urgent, Value.string s1.f_Options, v8 s1.f_Type, v8 s1.f_Code, Value.string s1.f_Data], v16 sum2] w (fun v w' => v = Value.string r ∧ Mem w [] w' []) := by
 refine calls_KC Try.func29 rfl Try.ntmps29 rfl ?_
 have hM := Mem.init w
 unfold F_ref07_stands at hF
 refine sr fun Q3 hQ3 => ?_
 refine RL.eff (E.box (vs := [v8 s1.f_Proto, v16 s1.f_Src, v16 s1.f_Dst, v32 s1.f_Seq, v32 s1.f_Ack, v8 s1.f_Flags, v16 s1.f_Window, v16 s1.f_Urgent, Value.string s1.f_Options, v8 s1.f_Type, v8 s1.f_Code, Value.string s1.f_Data]) hM rfl rfl) rfl fun v w5 hv => ?_
 clear hM
 obtain ⟨g4, rfl, hM, hf⟩ := hv
 refine va rfl rfl ?_
 refine nt hQ3 ?_
 clear hQ3 Q3
 refine KC.seqH fun Q7 hQ7 => ?_
 refine sr fun Q8 hQ8 => ?_
 refine RL.val (O.fldA fl30_0 (by decide) rfl) rfl ?_
 refine RL.val (O.load sc5 rfl (Cs.adds [0] ((hM.bx (i := 0) rfl)) rfl)) rfl ?_
 refine nt hQ8 ?_
 clear hQ8 Q8
 refine KC.block ?_
 refine sr fun Q9 hQ9 => ?_
 refine RL.val (O.eql rfl rfl) rfl ?_
 refine va rfl rfl ?_
 refine nt hQ9 ?_
 clear hQ9 Q9
 refine KC.cond rfl (fun hc => ?_) (fun hc => ?_)
 ·rw [if_pos hc] at hF
  refine KC.seqH fun Q10 hQ10 => ?_
  replace hM := hM.drewN 1
  refine KC.draw [] [] [2, 5, 9, 13, 21, 25, 29, 32, 36] [0, 3, 6, 7, 10, 11, 14, 15, 17, 18, 19, 20, 22, 23, 26, 27, 30, 31, 33, 34, 37, 38, 40, 41, 43, 44] (.ofList [0, 1, 3, 4, 7, 8, 11, 12, 15, 16, 17, 18, 19, 20, 23, 24, 27, 28, 31, 34, 35, 38, 39, 41, 42, 2, 5, 6, 9, 10, 13, 14, 21, 22, 25, 26, 29, 30, 32, 33, 36, 37, 40, 43, 44]) moP (by kernel_rfl) ?_
  refine RD.p rfl rfl rfl rfl (fun w' => O.fldA fl30_1 (by decide) rfl) ?_
  refine RD.q rfl rfl rfl rfl (fun w' hf => O.load sc22 rfl (Cs.adds [1] ((hM.bx (i := 0) rfl).fut hf) rfl)) ?_
  refine RD.p rfl rfl rfl rfl (fun w' => O.fldA fl30_2 (by decide) rfl) ?_
  refine RD.q rfl rfl rfl rfl (fun w' hf => O.load sc22 rfl (Cs.adds [2] ((hM.bx (i := 0) rfl).fut hf) rfl)) ?_
  refine RD.p rfl rfl rfl rfl (fun w' => O.fldA fl30_3 (by decide) rfl) ?_
  refine RD.q rfl rfl rfl rfl (fun w' hf => O.load sc23 rfl (Cs.adds [3] ((hM.bx (i := 0) rfl).fut hf) rfl)) ?_
  refine RD.p rfl rfl rfl rfl (fun w' => O.fldA fl30_4 (by decide) rfl) ?_
  refine RD.q rfl rfl rfl rfl (fun w' hf => O.load sc23 rfl (Cs.adds [4] ((hM.bx (i := 0) rfl).fut hf) rfl)) ?_
  refine RD.p rfl rfl rfl rfl (fun w' => O.fldA fl30_8 (by decide) rfl) ?_
  refine RD.q rfl rfl rfl rfl (fun w' hf => O.load sc9 rfl (Cs.adds [8] ((hM.bx (i := 0) rfl).fut hf) rfl)) ?_
  refine RD.p rfl rfl rfl rfl (fun w' => O.lens Try.underlying9 rfl) ?_
  refine RD.p rfl rfl rfl rfl (fun w' => O.mul rfl rfl) ?_
  refine RD.p rfl rfl rfl rfl (fun w' => O.add rfl rfl) ?_
  refine RD.p rfl rfl rfl rfl (fun w' => O.conv un3 Try.underlying5 rfl) ?_
  refine RD.p rfl rfl rfl rfl (fun w' => O.fldA fl30_5 (by decide) rfl) ?_
  refine RD.q rfl rfl rfl rfl (fun w' hf => O.load sc5 rfl (Cs.adds [5] ((hM.bx (i := 0) rfl).fut hf) rfl)) ?_
  refine RD.p rfl rfl rfl rfl (fun w' => O.fldA fl30_6 (by decide) rfl) ?_
  refine RD.q rfl rfl rfl rfl (fun w' hf => O.load sc22 rfl (Cs.adds [6] ((hM.bx (i := 0) rfl).fut hf) rfl)) ?_
  refine RD.p rfl rfl rfl rfl (fun w' => O.move rfl) ?_
  refine RD.p rfl rfl rfl rfl (fun w' => O.fldA fl30_7 (by decide) rfl) ?_
  refine RD.q rfl rfl rfl rfl (fun w' hf => O.load sc22 rfl (Cs.adds [7] ((hM.bx (i := 0) rfl).fut hf) rfl)) ?_
  refine RD.p rfl rfl rfl rfl (fun w' => O.fldA fl30_8 (by decide) rfl) ?_
  refine RD.q rfl rfl rfl rfl (fun w' hf => O.load sc9 rfl (Cs.adds [8] ((hM.bx (i := 0) rfl).fut hf) rfl)) ?_
  refine RD.p rfl rfl rfl rfl (fun w' => O.fldA fl30_11 (by decide) rfl) ?_
  refine RD.q rfl rfl rfl rfl (fun w' hf => O.load sc9 rfl (Cs.adds [11] ((hM.bx (i := 0) rfl).fut hf) rfl)) ?_
  refine obindE hF fun y11 hx12 hF => ?_
  refine RD.mcall rfl rfl trivial Try.func43 bd43 rfl rfl (c_ref07_two _ s1.f_Src _ hx12) fun v w13 hv => ?_
  obtain ⟨rfl, hN14⟩ := hv
  refine ⟨fun _ => hN14.fut, ?_⟩
  replace hM := hM.call0 hN14
  refine obindE hF fun y15 hx16 hF => ?_
  refine RD.mcall rfl rfl trivial Try.func43 bd43 rfl rfl (c_ref07_two _ s1.f_Dst _ hx16) fun v w17 hv => ?_
  obtain ⟨rfl, hN18⟩ := hv
  refine ⟨fun _ => hN18.fut, ?_⟩
  replace hM := hM.call0 hN18
  refine cut_someE hF fun hq19 hF => ?_
  refine RD.p rfl rfl rfl rfl (fun w' => O.addS (of_decide_eq_true hq19) rfl rfl) ?_
  refine obindE hF fun y20 hx21 hF => ?_
  refine RD.mcall rfl rfl trivial Try.func44 bd44 rfl rfl (c_ref07_four _ s1.f_Seq _ hx21) fun v w22 hv => ?_
  obtain ⟨rfl, hN23⟩ := hv
  refine ⟨fun _ => hN23.fut, ?_⟩
  replace hM := hM.call0 hN23
  refine cut_someE hF fun hq24 hF => ?_
  refine RD.p rfl rfl rfl rfl (fun w' => O.addS (of_decide_eq_true hq24) rfl rfl) ?_
  refine obindE hF fun y25 hx26 hF => ?_
  refine RD.mcall rfl rfl trivial Try.func44 bd44 rfl rfl (c_ref07_four _ s1.f_Ack _ hx26) fun v w27 hv => ?_
  obtain ⟨rfl, hN28⟩ := hv
  refine ⟨fun _ => hN28.fut, ?_⟩
  replace hM := hM.call0 hN28
  refine cut_someE hF fun hq29 hF => ?_
  refine RD.p rfl rfl rfl rfl (fun w' => O.addS (of_decide_eq_true hq29) rfl rfl) ?_
  refine obindE hF fun y30 hx31 hF => ?_
  refine RD.mcall rfl rfl trivial Try.func42 bd42 rfl rfl (c_ref07_one _ (IntKind.u8.wrap (IntKind.i64.wrap (80 + (IntKind.i64.wrap ((s1.f_Options.size : Int) * 4))))) _ hx31) fun v w32 hv => ?_
  obtain ⟨rfl, hN33⟩ := hv
  refine ⟨fun _ => hN33.fut, ?_⟩
  replace hM := hM.call0 hN33
  refine cut_someE hF fun hq34 hF => ?_
  refine RD.p rfl rfl rfl rfl (fun w' => O.addS (of_decide_eq_true hq34) rfl rfl) ?_
  refine obindE hF fun y35 hx36 hF => ?_
  refine RD.mcall rfl rfl trivial Try.func42 bd42 rfl rfl (c_ref07_one _ s1.f_Flags _ hx36) fun v w37 hv => ?_
  obtain ⟨rfl, hN38⟩ := hv
  refine ⟨fun _ => hN38.fut, ?_⟩
  replace hM := hM.call0 hN38
  refine cut_someE hF fun hq39 hF => ?_
  refine RD.p rfl rfl rfl rfl (fun w' => O.addS (of_decide_eq_true hq39) rfl rfl) ?_
  refine obindE hF fun y40 hx41 hF => ?_
  refine RD.mcall rfl rfl trivial Try.func43 bd43 rfl rfl (c_ref07_two _ s1.f_Window _ hx41) fun v w42 hv => ?_
  obtain ⟨rfl, hN43⟩ := hv
  refine ⟨fun _ => hN43.fut, ?_⟩
  replace hM := hM.call0 hN43
  refine cut_someE hF fun hq44 hF => ?_
  refine RD.p rfl rfl rfl rfl (fun w' => O.addS (of_decide_eq_true hq44) rfl rfl) ?_
  refine obindE hF fun y45 hx46 hF => ?_
  refine RD.mcall rfl rfl trivial Try.func43 bd43 rfl rfl (c_ref07_two _ sum2 _ hx46) fun v w47 hv => ?_
  obtain ⟨rfl, hN48⟩ := hv
  refine ⟨fun _ => hN48.fut, ?_⟩
  replace hM := hM.call0 hN48
  refine cut_someE hF fun hq49 hF => ?_
  refine RD.p rfl rfl rfl rfl (fun w' => O.addS (of_decide_eq_true hq49) rfl rfl) ?_
  refine obindE hF fun y50 hx51 hF => ?_
  refine RD.mcall rfl rfl trivial Try.func43 bd43 rfl rfl (c_ref07_two _ s1.f_Urgent _ hx51) fun v w52 hv => ?_
  obtain ⟨rfl, hN53⟩ := hv
  refine ⟨fun _ => hN53.fut, ?_⟩
  replace hM := hM.call0 hN53
  refine cut_someE hF fun hq54 hF => ?_
  refine RD.p rfl rfl rfl rfl (fun w' => O.addS (of_decide_eq_true hq54) rfl rfl) ?_
  refine cut_someE hF fun hq55 hF => ?_
  refine RD.p rfl rfl rfl rfl (fun w' => O.addS (of_decide_eq_true hq55) rfl rfl) ?_
  refine cut_someE hF fun hq56 hF => ?_
  refine RD.p rfl rfl rfl rfl (fun w' => O.addS (of_decide_eq_true hq56) rfl rfl) ?_
  refine RD.p rfl rfl rfl rfl (fun w' => O.assign rfl) ?_
  refine RD.nil ?_
  refine KQ.thn hQ10 ?_
  clear hQ10 Q10
  refine KC.ret ?_
  refine KQ.blk_r ?_
  refine KQ.thr hQ7 ?_
  clear hQ7 Q7
  have hE := Option.some.inj hF
  clear hF
  subst hE
  replace hM := hM.pick [] rfl (by decide)
  refine KQ.rets Try.results29 (RVs.cons (RV.tm rfl) RVs.nil) ?_
  exact ⟨_, rfl, rfl, hM⟩
 rw [if_neg (ne_true hc)] at hF
 refine sr fun Q57 hQ57 => ?_
 refine RL.val (O.eql rfl rfl) rfl ?_
 refine va rfl rfl ?_
 refine nt hQ57 ?_
 clear hQ57 Q57
 refine KC.cond rfl (fun hc => ?_) (fun hc => ?_)
 ·rw [if_pos hc] at hF
  refine KC.seqH fun Q58 hQ58 => ?_
  replace hM := hM.drewN 1
  refine KC.draw [] [] [2, 5, 12, 15] [0, 3, 6, 7, 9, 10, 11, 13, 14, 16, 17, 19, 20] (.ofList [0, 1, 3, 4, 7, 8, 9, 10, 11, 14, 17, 18, 2, 5, 6, 12, 13, 15, 16, 19, 20]) moP (by kernel_rfl) ?_
  refine RD.p rfl rfl rfl rfl (fun w' => O.fldA fl30_1 (by decide) rfl) ?_
  refine RD.q rfl rfl rfl rfl (fun w' hf => O.load sc22 rfl (Cs.adds [1] ((hM.bx (i := 0) rfl).fut hf) rfl)) ?_
  refine RD.p rfl rfl rfl rfl (fun w' => O.fldA fl30_2 (by decide) rfl) ?_
  refine RD.q rfl rfl rfl rfl (fun w' hf => O.load sc22 rfl (Cs.adds [2] ((hM.bx (i := 0) rfl).fut hf) rfl)) ?_
  refine RD.p rfl rfl rfl rfl (fun w' => O.fldA fl30_11 (by decide) rfl) ?_
  refine RD.q rfl rfl rfl rfl (fun w' hf => O.load sc9 rfl (Cs.adds [11] ((hM.bx (i := 0) rfl).fut hf) rfl)) ?_
  refine RD.p rfl rfl rfl rfl (fun w' => O.lens Try.underlying9 rfl) ?_
  refine RD.p rfl rfl rfl rfl (fun w' => O.add rfl rfl) ?_
  refine RD.p rfl rfl rfl rfl (fun w' => O.conv un3 Try.underlying22 rfl) ?_
  refine RD.p rfl rfl rfl rfl (fun w' => O.move rfl) ?_
  refine RD.p rfl rfl rfl rfl (fun w' => O.fldA fl30_11 (by decide) rfl) ?_
  refine RD.q rfl rfl rfl rfl (fun w' hf => O.load sc9 rfl (Cs.adds [11] ((hM.bx (i := 0) rfl).fut hf) rfl)) ?_
  refine obindE hF fun y59 hx60 hF => ?_
  refine RD.mcall rfl rfl trivial Try.func43 bd43 rfl rfl (c_ref07_two _ s1.f_Src _ hx60) fun v w61 hv => ?_
  obtain ⟨rfl, hN62⟩ := hv
  refine ⟨fun _ => hN62.fut, ?_⟩
  replace hM := hM.call0 hN62
  refine obindE hF fun y63 hx64 hF => ?_
  refine RD.mcall rfl rfl trivial Try.func43 bd43 rfl rfl (c_ref07_two _ s1.f_Dst _ hx64) fun v w65 hv => ?_
  obtain ⟨rfl, hN66⟩ := hv
  refine ⟨fun _ => hN66.fut, ?_⟩
  replace hM := hM.call0 hN66
  refine cut_someE hF fun hq67 hF => ?_
  refine RD.p rfl rfl rfl rfl (fun w' => O.addS (of_decide_eq_true hq67) rfl rfl) ?_
  refine obindE hF fun y68 hx69 hF => ?_
  refine RD.mcall rfl rfl trivial Try.func43 bd43 rfl rfl (c_ref07_two _ (IntKind.u16.wrap (IntKind.i64.wrap (8 + (s1.f_Data.size : Int)))) _ hx69) fun v w70 hv => ?_
  obtain ⟨rfl, hN71⟩ := hv
  refine ⟨fun _ => hN71.fut, ?_⟩
  replace hM := hM.call0 hN71
  refine cut_someE hF fun hq72 hF => ?_
  refine RD.p rfl rfl rfl rfl (fun w' => O.addS (of_decide_eq_true hq72) rfl rfl) ?_
  refine obindE hF fun y73 hx74 hF => ?_
  refine RD.mcall rfl rfl trivial Try.func43 bd43 rfl rfl (c_ref07_two _ sum2 _ hx74) fun v w75 hv => ?_
  obtain ⟨rfl, hN76⟩ := hv
  refine ⟨fun _ => hN76.fut, ?_⟩
  replace hM := hM.call0 hN76
  refine cut_someE hF fun hq77 hF => ?_
  refine RD.p rfl rfl rfl rfl (fun w' => O.addS (of_decide_eq_true hq77) rfl rfl) ?_
  refine cut_someE hF fun hq78 hF => ?_
  refine RD.p rfl rfl rfl rfl (fun w' => O.addS (of_decide_eq_true hq78) rfl rfl) ?_
  refine RD.p rfl rfl rfl rfl (fun w' => O.assign rfl) ?_
  refine RD.nil ?_
  refine KQ.thn hQ58 ?_
  clear hQ58 Q58
  refine KC.ret ?_
  refine KQ.blk_r ?_
  refine KQ.thr hQ7 ?_
  clear hQ7 Q7
  have hE := Option.some.inj hF
  clear hF
  subst hE
  replace hM := hM.pick [] rfl (by decide)
  refine KQ.rets Try.results29 (RVs.cons (RV.tm rfl) RVs.nil) ?_
  exact ⟨_, rfl, rfl, hM⟩
 rw [if_neg (ne_true hc)] at hF
 refine KC.skip ?_
 refine KQ.blk_n ?_
 refine KQ.thn hQ7 ?_
 clear hQ7 Q7
 refine KC.seqH fun Q79 hQ79 => ?_
 replace hM := hM.drewN 1
 refine KC.draw [] [] [2, 5, 8] [0, 3, 6, 7, 9, 10, 12, 13] (.ofList [0, 1, 3, 4, 7, 10, 11, 2, 5, 6, 8, 9, 12, 13]) moP (by kernel_rfl) ?_
 refine RD.p rfl rfl rfl rfl (fun w' => O.fldA fl30_9 (by decide) rfl) ?_
 refine RD.q rfl rfl rfl rfl (fun w' hf => O.load sc5 rfl (Cs.adds [9] ((hM.bx (i := 0) rfl).fut hf) rfl)) ?_
 refine RD.p rfl rfl rfl rfl (fun w' => O.fldA fl30_10 (by decide) rfl) ?_
 refine RD.q rfl rfl rfl rfl (fun w' hf => O.load sc5 rfl (Cs.adds [10] ((hM.bx (i := 0) rfl).fut hf) rfl)) ?_
 refine RD.p rfl rfl rfl rfl (fun w' => O.move rfl) ?_
 refine RD.p rfl rfl rfl rfl (fun w' => O.fldA fl30_11 (by decide) rfl) ?_
 refine RD.q rfl rfl rfl rfl (fun w' hf => O.load sc9 rfl (Cs.adds [11] ((hM.bx (i := 0) rfl).fut hf) rfl)) ?_
 refine obindE hF fun y80 hx81 hF => ?_
 refine RD.mcall rfl rfl trivial Try.func42 bd42 rfl rfl (c_ref07_one _ s1.f_Type _ hx81) fun v w82 hv => ?_
 obtain ⟨rfl, hN83⟩ := hv
 refine ⟨fun _ => hN83.fut, ?_⟩
 replace hM := hM.call0 hN83
 refine obindE hF fun y84 hx85 hF => ?_
 refine RD.mcall rfl rfl trivial Try.func42 bd42 rfl rfl (c_ref07_one _ s1.f_Code _ hx85) fun v w86 hv => ?_
 obtain ⟨rfl, hN87⟩ := hv
 refine ⟨fun _ => hN87.fut, ?_⟩
 replace hM := hM.call0 hN87
 refine cut_someE hF fun hq88 hF => ?_
 refine RD.p rfl rfl rfl rfl (fun w' => O.addS (of_decide_eq_true hq88) rfl rfl) ?_
 refine obindE hF fun y89 hx90 hF => ?_
 refine RD.mcall rfl rfl trivial Try.func43 bd43 rfl rfl (c_ref07_two _ sum2 _ hx90) fun v w91 hv => ?_
 obtain ⟨rfl, hN92⟩ := hv
 refine ⟨fun _ => hN92.fut, ?_⟩
 replace hM := hM.call0 hN92
 refine cut_someE hF fun hq93 hF => ?_
 refine RD.p rfl rfl rfl rfl (fun w' => O.addS (of_decide_eq_true hq93) rfl rfl) ?_
 refine cut_someE hF fun hq94 hF => ?_
 refine RD.p rfl rfl rfl rfl (fun w' => O.addS (of_decide_eq_true hq94) rfl rfl) ?_
 refine RD.p rfl rfl rfl rfl (fun w' => O.assign rfl) ?_
 refine RD.nil ?_
 refine KQ.thn hQ79 ?_
 clear hQ79 Q79
 refine KC.ret ?_
 have hE := Option.some.inj hF
 clear hF
 subst hE
 replace hM := hM.pick [] rfl (by decide)
 refine KQ.rets Try.results29 (RVs.cons (RV.tm rfl) RVs.nil) ?_
 exact ⟨_, rfl, rfl, hM⟩
set_option maxRecDepth 100000 in
set_option maxHeartbeats 40000000 in
theorem c_ref03_Words (w : World) (A2 : Option Addr) (c3 : Nat) (b1 : List Int) (hr4 : Rd w A2 c3 1 b1.length (b1.flatMap (eI .u8))) (r : (List Int)) (hF : F_ref03_Words b1 = some r) :
  CallsR Try.prog 66 [.slice A2 (b1).length c3] w (fun v w' => ∃ (A0 : Option Addr) (c0 : Nat), v = .slice A0 (r).length c0 ∧ Mem w [] w' [.row A0 c0 76 1 r.length (r.flatMap (eI .u64))]) := by
 refine calls_KC Try.func66 rfl Try.ntmps66 rfl ?_
 have hM := Mem.init w
 unfold F_ref03_Words at hF
 refine sr fun Q5 hQ5 => ?_
 refine va rfl rfl ?_
 refine nt hQ5 ?_
 clear hQ5 Q5
 refine sr fun Q6 hQ6 => ?_
 refine va rfl rfl ?_
 refine nt hQ6 ?_
 clear hQ6 Q6
 refine KC.seqH fun Q7 hQ7 => ?_
 refine sr fun Q8 hQ8 => ?_
 refine va rfl rfl ?_
 refine nt hQ8 ?_
 clear hQ8 Q8
 refine KC.block ?_
 refine KC.loop (fun k64 a w62 => ∃ (A58 : Option Addr) (c59 : Nat) (out60 : List Int) (i61 : Int), Kn 36 [(0, .slice A2 (b1).length c3), (3, .slice A58 (out60).length c59), (4, vI i61)] a ∧ Mem w [] w62 [.row A58 c59 76 1 (out60).length ((out60).flatMap (eI .u64))] ∧ F_ref03_Words_L1 b1 k64 out60 i61 = some r) ?_ ?_
 ·replace hM := hM.nilrow 76 1
  exact fun a ha => ⟨fuel0, none, 0, ([]), 0, ha.less (less_cons rfl (less_cons rfl (less_cons rfl less_nil))), hM, hF⟩
 rintro k64 a w62 ⟨A58, c59, out60, i61, ha, hM, hF⟩
 refine KC.app ha ?_
 clear ha
 cases k64 with
 | zero => exact (none_some hF).elim
 | succ k64 =>
 have hF : F_ref03_Words_l1 (F_ref03_Words_L1 b1 k64) b1 out60 i61 = some r := hF
 unfold F_ref03_Words_l1 at hF
 refine KC.seqH fun Q65 hQ65 => ?_
 refine sr fun Q66 hQ66 => ?_
 refine vm rfl rfl ?_
 refine vm rfl rfl ?_
 refine RL.val (O.len sl24 rfl) rfl ?_
 refine RL.val (O.lss rfl rfl) rfl ?_
 refine nt hQ66 ?_
 clear hQ66 Q66
 refine KC.cond rfl (fun hc => ?_) (fun hc => ?_)
 ·rw [if_pos hc] at hF
  refine KC.skip ?_
  refine KQ.thn hQ65 ?_
  clear hQ65 Q65
  refine KC.seqH fun Q67 hQ67 => ?_
  refine KC.block ?_
  refine sr fun Q68 hQ68 => ?_
  refine vm rfl rfl ?_
  refine vm rfl rfl ?_
  refine obindE hF fun xv71 hx70 hF => ?_
  have hA69 := Rd.atN (f := (eI .u8)) (s := 1) (fun _ => rfl) (by decide) (hM.inp hr4 Off.nil) hx70
  refine RL.val (O.idxA sl24 (hA69) rfl rfl) rfl ?_
  refine RL.val (O.load sc5 rfl (hA69).cells.at0) rfl ?_
  refine RL.val (O.conv un5 Try.underlying76 rfl) rfl ?_
  refine RL.val (O.mul rfl rfl) rfl ?_
  refine va rfl rfl ?_
  refine nt hQ68 ?_
  clear hQ68 Q68
  refine KC.cut (fun a w78 => ∃ (nv77 : Int), Kn 36 [(0, .slice A2 (b1).length c3), (3, .slice A58 (out60).length c59), (4, vI i61), (5, v64 nv77)] a ∧ Mem w [] w78 [.row A58 c59 76 1 (out60).length ((out60).flatMap (eI .u64))] ∧ F_ref03_Words_j1 out60 i61 (F_ref03_Words_L1 b1 k64) nv77 = some r) ?_ ?_
  ·refine sr fun Q72 hQ72 => ?_
   refine vm rfl rfl ?_
   refine RL.val (O.add rfl rfl) rfl ?_
   refine vm rfl rfl ?_
   refine RL.val (O.len sl24 rfl) rfl ?_
   refine RL.val (O.lss rfl rfl) rfl ?_
   refine nt hQ72 ?_
   clear hQ72 Q72
   refine KC.cond rfl (fun hc => ?_) (fun hc => ?_)
   ·rw [if_pos hc] at hF
    refine KC.region ?_
    refine vm rfl rfl ?_
    refine vm rfl rfl ?_
    refine vm rfl rfl ?_
    refine RL.val (O.add rfl rfl) rfl ?_
    refine obindE hF fun xv75 hx74 hF => ?_
    have hA73 := Rd.atN (f := (eI .u8)) (s := 1) (fun _ => rfl) (by decide) (hM.inp hr4 Off.nil) hx74
    refine RL.val (O.idxA sl24 (hA73) rfl rfl) rfl ?_
    refine RL.val (O.load sc5 rfl (hA73).cells.at0) rfl ?_
    refine RL.val (O.conv un5 Try.underlying76 rfl) rfl ?_
    refine RL.val (O.add rfl rfl) rfl ?_
    refine va rfl rfl ?_
    refine RL.nil ?_
    refine KQ.then_k ?_
    exact fun a ha => ⟨(IntKind.u64.wrap ((IntKind.u64.wrap ((IntKind.u64.wrap xv71) * 256)) + (IntKind.u64.wrap xv75))), ha.less (less_cons rfl (less_cons rfl (less_cons rfl (less_cons rfl less_nil)))), hM, hF⟩
   rw [if_neg (ne_true hc)] at hF
   refine KC.skip ?_
   refine KQ.then_k ?_
   exact fun a ha => ⟨(IntKind.u64.wrap ((IntKind.u64.wrap xv71) * 256)), ha.less (less_cons rfl (less_cons rfl (less_cons rfl (less_cons rfl less_nil)))), hM, hF⟩
  rintro a w78 ⟨nv77, ha, hM, hF⟩
  refine KC.app ha ?_
  clear ha
  unfold F_ref03_Words_j1 at hF
  refine KC.region ?_
  refine vm rfl rfl ?_
  refine vm rfl rfl ?_
  refine RL.eff (E.bsl (enc := (eI .u64)) (xs := ([nv77] : List Int)) hM sl101 ze76 rfl rfl rfl (fun _ => rfl) rfl (by kernel_rfl) rfl) rfl fun v w79 hv => ?_
  clear hM
  obtain ⟨A80, rfl, hM, hf⟩ := hv
  refine cut_someE hF fun hq85 hF => ?_
  refine RL.eff (E.app (enc := (eI .u64)) (xs := out60) (ys := ([nv77] : List Int)) (j := 0) hM rfl sl101 ze76 rfl rfl rfl rfl rfl (hM.rd (i := 1) rfl) (fun _ => One.all rfl) (of_decide_eq_true hq85)) rfl fun v w84 hv => ?_
  clear hM
  obtain ⟨A82, c83, rfl, hM, hf⟩ := hv
  refine va rfl rfl ?_
  refine RL.nil ?_
  refine KQ.blk_n ?_
  refine KQ.thn hQ67 ?_
  clear hQ67 Q67
  refine KC.region ?_
  refine vm rfl rfl ?_
  refine RL.val (O.add rfl rfl) rfl ?_
  refine va rfl rfl ?_
  refine RL.nil ?_
  refine KQ.then_k ?_
  replace hM := hM.pick [0] rfl (by decide)
  exact fun a ha => ⟨k64, Nat.lt_succ_self k64, A82, c83, (out60 ++ ([nv77] : List Int)), (IntKind.i64.wrap (i61 + 2)), ha.less (less_cons rfl (less_cons rfl (less_cons rfl less_nil))), hM, hF⟩
 rw [if_neg (ne_true hc)] at hF
 refine KC.exit ?_
 refine KQ.thx hQ65 ?_
 clear hQ65 Q65
 refine KQ.then_x ?_
 refine KQ.blk_x ?_
 refine KQ.thn hQ7 ?_
 clear hQ7 Q7
 refine sr fun Q87 hQ87 => ?_
 refine vm rfl rfl ?_
 refine va rfl rfl ?_
 refine nt hQ87 ?_
 clear hQ87 Q87
 refine KC.ret ?_
 have hE := Option.some.inj hF
 clear hF
 subst hE
 refine KQ.rets Try.results66 (RVs.cons (RV.tm rfl) RVs.nil) ?_
 exact ⟨_, rfl, A58, c59, rfl, hM⟩
set_option maxRecDepth 100000 in
set_option maxHeartbeats 40000000 in
theorem c_ref03_Fold (w : World) (nv1 : Int) (r : Int) (hF : F_ref03_Fold nv1 = some r) :
  CallsR Try.prog 67 [v64 nv1] w (fun v w' => v = v64 r ∧ Mem w [] w' []) := by
 refine calls_KC Try.func67 rfl Try.ntmps67 rfl ?_
 have hM := Mem.init w
 unfold F_ref03_Fold at hF
 refine sr fun Q2 hQ2 => ?_
 refine va rfl rfl ?_
 refine nt hQ2 ?_
 clear hQ2 Q2
 refine KC.seqH fun Q3 hQ3 => ?_
 refine KC.block ?_
 refine KC.loop (fun k12 a w10 => ∃ (nv9 : Int), Kn 11 [(0, v64 nv9)] a ∧ Mem w [] w10 [] ∧ F_ref03_Fold_L1 k12 nv9 = some r) ?_ ?_
 ·exact fun a ha => ⟨fuel0, nv1, ha.less (less_cons rfl less_nil), hM, hF⟩
 rintro k12 a w10 ⟨nv9, ha, hM, hF⟩
 refine KC.app ha ?_
 clear ha
 cases k12 with
 | zero => exact (none_some hF).elim
 | succ k12 =>
 have hF : F_ref03_Fold_l1 (F_ref03_Fold_L1 k12) nv9 = some r := hF
 unfold F_ref03_Fold_l1 at hF
 refine KC.seqH fun Q13 hQ13 => ?_
 refine sr fun Q14 hQ14 => ?_
 refine vm rfl rfl ?_
 refine RL.val (O.gtr rfl rfl) rfl ?_
 refine nt hQ14 ?_
 clear hQ14 Q14
 refine KC.cond rfl (fun hc => ?_) (fun hc => ?_)
 ·rw [if_pos hc] at hF
  refine KC.skip ?_
  refine KQ.thn hQ13 ?_
  clear hQ13 Q13
  refine KC.block ?_
  refine KC.region ?_
  refine vm rfl rfl ?_
  refine RL.val (O.quo rfl rfl (by decide)) rfl ?_
  refine vm rfl rfl ?_
  refine RL.val (O.rem rfl rfl (by decide)) rfl ?_
  refine RL.val (O.add rfl rfl) rfl ?_
  refine va rfl rfl ?_
  refine RL.nil ?_
  refine KQ.blk_n ?_
  refine KQ.then_k ?_
  exact fun a ha => ⟨k12, Nat.lt_succ_self k12, (IntKind.u64.wrap ((IntKind.u64.wrap (Int.tdiv nv9 65536)) + (Int.tmod nv9 65536))), ha.less (less_cons rfl less_nil), hM, hF⟩
 rw [if_neg (ne_true hc)] at hF
 refine KC.exit ?_
 refine KQ.thx hQ13 ?_
 clear hQ13 Q13
 refine KQ.then_x ?_
 refine KQ.blk_x ?_
 refine KQ.thn hQ3 ?_
 clear hQ3 Q3
 refine sr fun Q15 hQ15 => ?_
 refine vm rfl rfl ?_
 refine va rfl rfl ?_
 refine nt hQ15 ?_
 clear hQ15 Q15
 refine KC.ret ?_
 have hE := Option.some.inj hF
 clear hF
 subst hE
 refine KQ.rets Try.results67 (RVs.cons (RV.tm rfl) RVs.nil) ?_
 exact ⟨_, rfl, rfl, hM⟩
set_option maxRecDepth 100000 in
set_option maxHeartbeats 40000000 in
theorem c_ref03_Sum (w : World) (A2 : Option Addr) (c3 : Nat) (b1 : List Int) (hr4 : Rd w A2 c3 1 b1.length (b1.flatMap (eI .u8))) (r : Int) (hF : F_ref03_Sum b1 = some r) :
  CallsR Try.prog 45 [.slice A2 (b1).length c3] w (fun v w' => v = v64 r ∧ Mem w [] w' []) := by
 refine calls_KC Try.func45 rfl Try.ntmps45 rfl ?_
 have hM := Mem.init w
 unfold F_ref03_Sum at hF
 refine sr fun Q5 hQ5 => ?_
 refine va rfl rfl ?_
 refine nt hQ5 ?_
 clear hQ5 Q5
 refine sr fun Q6 hQ6 => ?_
 refine va rfl rfl ?_
 refine nt hQ6 ?_
 clear hQ6 Q6
 refine sr fun Q7 hQ7 => ?_
 refine vm rfl rfl ?_
 refine obindE hF fun y8 hx9 hF => ?_
 refine RL.call Try.func66 bd66 rfl rfl (c_ref03_Words _ _ _ b1 (hM.inp hr4 Off.nil) _ hx9) fun v w10 hv => ?_
 obtain ⟨A12, c13, rfl, hN11⟩ := hv
 replace hM := hM.call hN11
 refine va rfl rfl ?_
 refine nt hQ7 ?_
 clear hQ7 Q7
 refine KC.seqH fun Q15 hQ15 => ?_
 refine sr fun Q16 hQ16 => ?_
 refine va rfl rfl ?_
 refine nt hQ16 ?_
 clear hQ16 Q16
 refine KC.block ?_
 refine KC.loop (fun k37 a w35 => ∃ (nv32 : Int) (i34 : Int), Kn 22 [(3, v64 nv32), (4, .slice A12 (y8).length c13), (5, vI i34)] a ∧ Mem w [] w35 [.row A12 c13 76 1 (y8).length ((y8).flatMap (eI .u64))] ∧ F_ref03_Sum_L1 y8 k37 nv32 i34 = some r) ?_ ?_
 ·exact fun a ha => ⟨fuel0, 0, 0, ha.less (less_cons rfl (less_cons rfl (less_cons rfl less_nil))), hM, hF⟩
 rintro k37 a w35 ⟨nv32, i34, ha, hM, hF⟩
 refine KC.app ha ?_
 clear ha
 cases k37 with
 | zero => exact (none_some hF).elim
 | succ k37 =>
 have hF : F_ref03_Sum_l1 (F_ref03_Sum_L1 y8 k37) y8 nv32 i34 = some r := hF
 unfold F_ref03_Sum_l1 at hF
 refine KC.seqH fun Q38 hQ38 => ?_
 refine sr fun Q39 hQ39 => ?_
 refine vm rfl rfl ?_
 refine vm rfl rfl ?_
 refine RL.val (O.len sl101 rfl) rfl ?_
 refine RL.val (O.lss rfl rfl) rfl ?_
 refine nt hQ39 ?_
 clear hQ39 Q39
 refine KC.cond rfl (fun hc => ?_) (fun hc => ?_)
 ·rw [if_pos hc] at hF
  refine KC.skip ?_
  refine KQ.thn hQ38 ?_
  clear hQ38 Q38
  refine KC.seqH fun Q40 hQ40 => ?_
  refine KC.block ?_
  refine KC.region ?_
  refine vm rfl rfl ?_
  refine vm rfl rfl ?_
  refine vm rfl rfl ?_
  refine obindE hF fun xv43 hx42 hF => ?_
  have hA41 := Rd.atN (f := (eI .u64)) (s := 1) (fun _ => rfl) (by decide) (hM.rd (i := 0) rfl) hx42
  refine RL.val (O.idxA sl101 (hA41) rfl rfl) rfl ?_
  refine RL.val (O.load sc76 rfl (hA41).cells.at0) rfl ?_
  refine RL.val (O.add rfl rfl) rfl ?_
  refine va rfl rfl ?_
  refine RL.nil ?_
  refine KQ.blk_n ?_
  refine KQ.thn hQ40 ?_
  clear hQ40 Q40
  refine KC.region ?_
  refine vm rfl rfl ?_
  refine RL.val (O.add rfl rfl) rfl ?_
  refine va rfl rfl ?_
  refine RL.nil ?_
  refine KQ.then_k ?_
  exact fun a ha => ⟨k37, Nat.lt_succ_self k37, (IntKind.u64.wrap (nv32 + xv43)), (IntKind.i64.wrap (i34 + 1)), ha.less (less_cons rfl (less_cons rfl (less_cons rfl less_nil))), hM, hF⟩
 rw [if_neg (ne_true hc)] at hF
 refine KC.exit ?_
 refine KQ.thx hQ38 ?_
 clear hQ38 Q38
 refine KQ.then_x ?_
 refine KQ.blk_x ?_
 refine KQ.thn hQ15 ?_
 clear hQ15 Q15
 refine sr fun Q44 hQ44 => ?_
 refine vm rfl rfl ?_
 refine obindE hF fun y45 hx46 hF => ?_
 refine RL.call Try.func67 bd67 rfl rfl (c_ref03_Fold _ nv32 _ hx46) fun v w47 hv => ?_
 obtain ⟨rfl, hN48⟩ := hv
 replace hM := hM.call0 hN48
 refine va rfl rfl ?_
 refine nt hQ44 ?_
 clear hQ44 Q44
 refine KC.ret ?_
 have hE := Option.some.inj hF
 clear hF
 subst hE
 replace hM := hM.pick [] rfl (by decide)
 refine KQ.rets Try.results45 (RVs.cons (RV.tm rfl) RVs.nil) ?_
 exact ⟨_, rfl, rfl, hM⟩
set_option maxRecDepth 100000 in
set_option maxHeartbeats 40000000 in
theorem c_ref03_Of (w : World) (A2 : Option Addr) (c3 : Nat) (b1 : List Int) (hr4 : Rd w A2 c3 1 b1.length (b1.flatMap (eI .u8))) (r : Int) (hF : F_ref03_Of b1 = some r) :
  CallsR Try.prog 28 [.slice A2 (b1).length c3] w (fun v w' => v = v16 r ∧ Mem w [] w' []) := by
 refine calls_KC Try.func28 rfl Try.ntmps28 rfl ?_
 have hM := Mem.init w
 unfold F_ref03_Of at hF
 refine sr fun Q5 hQ5 => ?_
 refine va rfl rfl ?_
 refine nt hQ5 ?_
 clear hQ5 Q5
 refine sr fun Q6 hQ6 => ?_
 refine vm rfl rfl ?_
 refine obindE hF fun y7 hx8 hF => ?_
 refine RL.call Try.func45 bd45 rfl rfl (c_ref03_Sum _ _ _ b1 (hM.inp hr4 Off.nil) _ hx8) fun v w9 hv => ?_
 obtain ⟨rfl, hN10⟩ := hv
 replace hM := hM.call0 hN10
 refine RL.val (O.sub rfl rfl) rfl ?_
 refine RL.val (O.conv un76 Try.underlying22 rfl) rfl ?_
 refine va rfl rfl ?_
 refine nt hQ6 ?_
 clear hQ6 Q6
 refine KC.ret ?_
 have hE := Option.some.inj hF
 clear hF
 subst hE
 refine KQ.rets Try.results28 (RVs.cons (RV.tm rfl) RVs.nil) ?_
 exact ⟨_, rfl, rfl, hM⟩
end Go.Proofs.Ytcinagdkkclapaa
