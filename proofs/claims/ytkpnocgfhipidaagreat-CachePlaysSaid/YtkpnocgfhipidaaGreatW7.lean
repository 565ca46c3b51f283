/- Printed by a program of this claim: each call returns what the plain function of its name gives. -/
import Derived.Test.YtkpnocgfhipidaaGreatW1
import Derived.Test.YtkpnocgfhipidaaGreatW6
set_option linter.unusedVariables false
namespace Go.Proofs.YtkpnocgfhipidaaGreat
open Go Go.Ox Go.RowKit
set_option maxRecDepth 100000 in
set_option maxHeartbeats 40000000 in
theorem c_flow_Record_With (w : World) (rv1 : T_flow_Record) (p2 : T_packet_Packet) (tick3 : Int) (r : T_flow_Record) (hF : F_flow_Record_With rv1 p2 tick3 = some r) :
  CallsR Tryz.prog 44 [.agg (rv1.cs).toArray, .agg (p2.cs).toArray, v64 tick3] w (fun v w' => v = .agg (r.cs).toArray ∧ Mem w [] w' []) := by
 refine calls_KC Tryz.func44 rfl Tryz.ntmps44 rfl ?_
 have hM := Mem.init w
 unfold F_flow_Record_With at hF
 refine sr fun Q4 hQ4 => ?_
 refine RL.eff (E.box (vs := (rv1.cs)) hM rfl rfl) rfl fun v w6 hv => ?_
 clear hM
 obtain ⟨g5, rfl, hM, hf⟩ := hv
 refine RL.eff (E.box (vs := (p2.cs)) hM rfl rfl) rfl fun v w9 hv => ?_
 clear hM
 obtain ⟨g8, rfl, hM, hf⟩ := hv
 refine RL.eff (E.alloc hM ze62) rfl fun v w12 hv => ?_
 clear hM
 obtain ⟨g11, rfl, hM, hf⟩ := hv
 refine nt hQ4 ?_
 clear hQ4 Q4
 refine KC.cut (fun a w53 => ∃ (g50 : Nat) (t51 : Int) (t52 : Int), Kn 34 [(2, v64 tick3), (3, .pointer (some ⟨g5, 0, none⟩)), (4, .pointer (some ⟨g8, 0, none⟩)), (6, .pointer (some ⟨g11, 0, none⟩)), (7, .pointer (some ⟨g50, 0, none⟩))] a ∧ Mem w [] w53 [.box g5 62 (rv1.cs), .box g8 44 (p2.cs), .box g11 62 (vB false :: (a16 (List.replicate 16 0) ++ (vB false :: (a16 (List.replicate 16 0) ++ [v8 0, v16 0, v16 0, v64 0, v64 0, v64 0, v64 0, v8 0, v8 0, v8 0])))), .box g50 100 [v64 t51, v64 t52]] ∧ F_flow_Record_With_j1 rv1 p2 tick3 t51 t52 = some r) ?_ ?_
 ·replace hM := hM.drewN 1
  refine KC.draw [] [9] [1, 7, 8, 9] [2, 4, 5] (.cons 0 (.cons 2 (.cons 3 (.cons 4 (.cons 5 (.cons 6 (.alt 1 (.alt 7 (.ofList [8, 9]) 8 (.ofList [7, 9])) 8 (.ofList [1, 7, 9])))))))) moP (by kernel_rfl) ?_
  refine RD.q rfl rfl rfl rfl (fun w' hf => O.loadN (cs := (rv1.cs)) ag62 rfl (Cs.addsN [] ((hM.bx (i := 0) rfl).fut hf) rfl)) ?_
  refine RD.p rfl rfl rfl rfl (fun w' => O.fldA fl44_1 (by decide) rfl) ?_
  refine RD.q rfl rfl rfl rfl (fun w' hf => O.load sc3 rfl (Cs.adds [37] ((hM.bx (i := 1) rfl).fut hf) rfl)) ?_
  refine RD.p rfl rfl rfl rfl (fun w' => O.max2 rfl rfl) ?_
  refine RD.p rfl rfl rfl rfl (fun w' => O.conv un3 Tryz.underlying22 rfl) ?_
  refine RD.q rfl rfl rfl rfl (fun w' hf => O.bld (cs := [v64 1, v64 (IntKind.u64.wrap (gmax 0 p2.f_Length))]) bt100 rfl (by kernel_rfl)) ?_
  refine RD.alt ?_ ?_
  ·refine obindE hF fun y14 hx15 hF => ?_
   refine RD.mcall rfl rfl trivial Tryz.func40 bd40 rfl rfl (c_flow_Record_Total _ rv1 _ hx15) fun v w16 hv => ?_
   obtain ⟨rfl, hN17⟩ := hv
   refine ⟨fun _ => hN17.fut, ?_⟩
   replace hM := hM.call0 hN17
   refine RD.alt ?_ ?_
   ·refine obindE hF fun y18 hx19 hF => ?_
    refine RD.mcall rfl rfl trivial Tryz.func79 bd79 rfl rfl (c_flow_Total_Plus _ y14 (T_flow_Total.mk 1 (IntKind.u64.wrap (gmax 0 p2.f_Length))) _ hx19) fun v w20 hv => ?_
    obtain ⟨rfl, hN21⟩ := hv
    refine ⟨fun _ => hN21.fut, ?_⟩
    replace hM := hM.call0 hN21
    refine RD.meff rfl rfl (E.alloc hM ze100) rfl fun v w23 hv => ?_
    clear hM
    obtain ⟨g22, rfl, hM, hf⟩ := hv
    refine ⟨fun _ => hf, ?_⟩
    refine RD.meffs rfl rfl rfl (E.stB (j := 3) (off := 0) (vs := [v64 y18.f_Packets, v64 y18.f_Bytes]) (cs' := [v64 y18.f_Packets, v64 y18.f_Bytes]) hM rfl sz100 rfl (adds_eq [] rfl) rfl rfl (One.all rfl) rfl rfl) fun w25 hM1 => ?_
    clear hM
    have hM := hM1
    clear hM1
    refine RD.nil ?_
    refine KQ.then_k ?_
    exact fun a ha => ⟨g22, y18.f_Packets, y18.f_Bytes, ha.less (less_cons rfl (less_cons rfl (less_cons rfl (less_cons rfl (less_cons rfl less_nil))))), hM, hF⟩
   refine RD.meff rfl rfl (E.alloc hM ze100) rfl fun v w27 hv => ?_
   clear hM
   obtain ⟨g26, rfl, hM, hf⟩ := hv
   refine ⟨fun _ => hf, ?_⟩
   refine obindE hF fun y29 hx30 hF => ?_
   refine RD.mcall rfl rfl trivial Tryz.func79 bd79 rfl rfl (c_flow_Total_Plus _ y14 (T_flow_Total.mk 1 (IntKind.u64.wrap (gmax 0 p2.f_Length))) _ hx30) fun v w31 hv => ?_
   obtain ⟨rfl, hN32⟩ := hv
   refine ⟨fun _ => hN32.fut, ?_⟩
   replace hM := hM.call0 hN32
   refine RD.meffs rfl rfl rfl (E.stB (j := 3) (off := 0) (vs := [v64 y29.f_Packets, v64 y29.f_Bytes]) (cs' := [v64 y29.f_Packets, v64 y29.f_Bytes]) hM rfl sz100 rfl (adds_eq [] rfl) rfl rfl (One.all rfl) rfl rfl) fun w33 hM1 => ?_
   clear hM
   have hM := hM1
   clear hM1
   refine RD.nil ?_
   refine KQ.then_k ?_
   exact fun a ha => ⟨g26, y29.f_Packets, y29.f_Bytes, ha.less (less_cons rfl (less_cons rfl (less_cons rfl (less_cons rfl (less_cons rfl less_nil))))), hM, hF⟩
  refine RD.meff rfl rfl (E.alloc hM ze100) rfl fun v w35 hv => ?_
  clear hM
  obtain ⟨g34, rfl, hM, hf⟩ := hv
  refine ⟨fun _ => hf, ?_⟩
  refine obindE hF fun y37 hx38 hF => ?_
  refine RD.mcall rfl rfl trivial Tryz.func40 bd40 rfl rfl (c_flow_Record_Total _ rv1 _ hx38) fun v w39 hv => ?_
  obtain ⟨rfl, hN40⟩ := hv
  refine ⟨fun _ => hN40.fut, ?_⟩
  replace hM := hM.call0 hN40
  refine obindE hF fun y41 hx42 hF => ?_
  refine RD.mcall rfl rfl trivial Tryz.func79 bd79 rfl rfl (c_flow_Total_Plus _ y37 (T_flow_Total.mk 1 (IntKind.u64.wrap (gmax 0 p2.f_Length))) _ hx42) fun v w43 hv => ?_
  obtain ⟨rfl, hN44⟩ := hv
  refine ⟨fun _ => hN44.fut, ?_⟩
  replace hM := hM.call0 hN44
  refine RD.meffs rfl rfl rfl (E.stB (j := 3) (off := 0) (vs := [v64 y41.f_Packets, v64 y41.f_Bytes]) (cs' := [v64 y41.f_Packets, v64 y41.f_Bytes]) hM rfl sz100 rfl (adds_eq [] rfl) rfl rfl (One.all rfl) rfl rfl) fun w45 hM1 => ?_
  clear hM
  have hM := hM1
  clear hM1
  refine RD.nil ?_
  refine KQ.then_k ?_
  exact fun a ha => ⟨g34, y41.f_Packets, y41.f_Bytes, ha.less (less_cons rfl (less_cons rfl (less_cons rfl (less_cons rfl (less_cons rfl less_nil))))), hM, hF⟩
 rintro a w53 ⟨g50, t51, t52, ha, hM, hF⟩
 refine KC.app ha ?_
 clear ha
 unfold F_flow_Record_With_j1 at hF
 refine KC.cut (fun a w61 => Kn 34 [(2, v64 tick3), (3, .pointer (some ⟨g5, 0, none⟩)), (4, .pointer (some ⟨g8, 0, none⟩)), (6, .pointer (some ⟨g11, 0, none⟩))] a ∧ Mem w [] w61 [.box g5 62 (rv1.f_Key.cs ++ [v64 t51, v64 t52, v64 rv1.f_First, v64 rv1.f_Last, v8 rv1.f_Flags, v8 rv1.f_Reason, v8 rv1.f_Class]), .box g8 44 (p2.cs), .box g11 62 (vB false :: (a16 (List.replicate 16 0) ++ (vB false :: (a16 (List.replicate 16 0) ++ [v8 0, v16 0, v16 0, v64 0, v64 0, v64 0, v64 0, v8 0, v8 0, v8 0]))))] ∧ F_flow_Record_With_j2 rv1 p2 tick3 t51 t52 = some r) ?_ ?_
 ·replace hM := hM.drewN 1
  refine KC.draw [] [5, 7] [3, 5, 7] [0, 2, 4, 6] (.cons 0 (.cons 1 (.cons 2 (.cons 4 (.alt 3 (.ofList [5, 6, 7]) 5 (.ofList [3, 6, 7])))))) moP (by kernel_rfl) ?_
  refine RD.p rfl rfl rfl rfl (fun w' => O.fldA fl100_0 (by decide) rfl) ?_
  refine RD.q rfl rfl rfl rfl (fun w' hf => O.load sc22 rfl (Cs.adds [0] ((hM.bx (i := 3) rfl).fut hf) rfl)) ?_
  refine RD.p rfl rfl rfl rfl (fun w' => O.fldA fl100_1 (by decide) rfl) ?_
  refine RD.p rfl rfl rfl rfl (fun w' => O.fldA fl62_1 (by decide) rfl) ?_
  refine RD.alt ?_ ?_
  ·refine RD.mq rfl rfl (O.load sc22 rfl (Cs.adds [1] ((hM.bx (i := 3) rfl)) rfl)) rfl ?_
   refine RD.meffs rfl rfl rfl (E.stB (j := 0) (off := 37) (vs := [v64 t51]) (cs' := (rv1.f_Key.cs ++ [v64 t51, v64 rv1.f_Bytes, v64 rv1.f_First, v64 rv1.f_Last, v8 rv1.f_Flags, v8 rv1.f_Reason, v8 rv1.f_Class])) hM rfl sz22 rfl (adds_eq [37] rfl) rfl rfl (One.all rfl) rfl rfl) fun w54 hM1 => ?_
   clear hM
   have hM := hM1
   clear hM1
   refine RD.p rfl rfl rfl rfl (fun w' => O.fldA fl62_2 (by decide) rfl) ?_
   refine RD.meffs rfl rfl rfl (E.stB (j := 0) (off := 38) (vs := [v64 t52]) (cs' := (rv1.f_Key.cs ++ [v64 t51, v64 t52, v64 rv1.f_First, v64 rv1.f_Last, v8 rv1.f_Flags, v8 rv1.f_Reason, v8 rv1.f_Class])) hM rfl sz22 rfl (adds_eq [38] rfl) rfl rfl (One.all rfl) rfl rfl) fun w55 hM1 => ?_
   clear hM
   have hM := hM1
   clear hM1
   refine RD.nil ?_
   refine KQ.then_k ?_
   replace hM := hM.pick [0, 1, 2] rfl (by decide)
   exact fun a ha => ⟨ha.less (less_cons rfl (less_cons rfl (less_cons rfl (less_cons rfl less_nil)))), hM, hF⟩
  refine RD.meffs rfl rfl rfl (E.stB (j := 0) (off := 37) (vs := [v64 t51]) (cs' := (rv1.f_Key.cs ++ [v64 t51, v64 rv1.f_Bytes, v64 rv1.f_First, v64 rv1.f_Last, v8 rv1.f_Flags, v8 rv1.f_Reason, v8 rv1.f_Class])) hM rfl sz22 rfl (adds_eq [37] rfl) rfl rfl (One.all rfl) rfl rfl) fun w56 hM1 => ?_
  clear hM
  have hM := hM1
  clear hM1
  refine RD.mq rfl rfl (O.load sc22 rfl (Cs.adds [1] ((hM.bx (i := 3) rfl)) rfl)) rfl ?_
  refine RD.p rfl rfl rfl rfl (fun w' => O.fldA fl62_2 (by decide) rfl) ?_
  refine RD.meffs rfl rfl rfl (E.stB (j := 0) (off := 38) (vs := [v64 t52]) (cs' := (rv1.f_Key.cs ++ [v64 t51, v64 t52, v64 rv1.f_First, v64 rv1.f_Last, v8 rv1.f_Flags, v8 rv1.f_Reason, v8 rv1.f_Class])) hM rfl sz22 rfl (adds_eq [38] rfl) rfl rfl (One.all rfl) rfl rfl) fun w57 hM1 => ?_
  clear hM
  have hM := hM1
  clear hM1
  refine RD.nil ?_
  refine KQ.then_k ?_
  replace hM := hM.pick [0, 1, 2] rfl (by decide)
  exact fun a ha => ⟨ha.less (less_cons rfl (less_cons rfl (less_cons rfl (less_cons rfl less_nil)))), hM, hF⟩
 rintro a w61 ⟨ha, hM, hF⟩
 refine KC.app ha ?_
 clear ha
 unfold F_flow_Record_With_j2 at hF
 refine sr fun Q62 hQ62 => ?_
 refine RL.val (O.fldA fl62_4 (by decide) rfl) rfl ?_
 refine RL.val (O.load sc22 rfl (Cs.adds [40] ((hM.bx (i := 0) rfl)) rfl)) rfl ?_
 refine vm rfl rfl ?_
 refine RL.val (O.max2 rfl rfl) rfl ?_
 refine RL.val (O.fldA fl62_4 (by decide) rfl) rfl ?_
 refine RL.effs (E.stB (j := 0) (off := 40) (vs := [v64 (gmax rv1.f_Last tick3)]) (cs' := (rv1.f_Key.cs ++ [v64 t51, v64 t52, v64 rv1.f_First, v64 (gmax rv1.f_Last tick3), v8 rv1.f_Flags, v8 rv1.f_Reason, v8 rv1.f_Class])) hM rfl sz22 rfl (adds_eq [40] rfl) rfl rfl (One.all rfl) rfl rfl) fun w63 hM1 => ?_
 clear hM
 have hM := hM1
 clear hM1
 refine nt hQ62 ?_
 clear hQ62 Q62
 refine sr fun Q64 hQ64 => ?_
 refine RL.val (O.fldA fl62_5 (by decide) rfl) rfl ?_
 refine RL.val (O.load sc5 rfl (Cs.adds [41] ((hM.bx (i := 0) rfl)) rfl)) rfl ?_
 refine RL.val (O.fldA fl44_2 (by decide) rfl) rfl ?_
 refine RL.val (O.load sc5 rfl (Cs.adds [38] ((hM.bx (i := 1) rfl)) rfl)) rfl ?_
 refine RL.val (O.or rfl rfl) rfl ?_
 refine RL.val (O.fldA fl62_5 (by decide) rfl) rfl ?_
 refine RL.effs (E.stB (j := 0) (off := 41) (vs := [v8 (bits .or .u8 rv1.f_Flags p2.f_Flags)]) (cs' := (rv1.f_Key.cs ++ [v64 t51, v64 t52, v64 rv1.f_First, v64 (gmax rv1.f_Last tick3), v8 (bits .or .u8 rv1.f_Flags p2.f_Flags), v8 rv1.f_Reason, v8 rv1.f_Class])) hM rfl sz5 rfl (adds_eq [41] rfl) rfl rfl (One.all rfl) rfl rfl) fun w65 hM1 => ?_
 clear hM
 have hM := hM1
 clear hM1
 refine nt hQ64 ?_
 clear hQ64 Q64
 refine sr fun Q66 hQ66 => ?_
 refine RL.val (O.loadN (cs := (rv1.f_Key.cs ++ [v64 t51, v64 t52, v64 rv1.f_First, v64 (gmax rv1.f_Last tick3), v8 (bits .or .u8 rv1.f_Flags p2.f_Flags), v8 rv1.f_Reason, v8 rv1.f_Class])) ag62 rfl (Cs.addsN [] ((hM.bx (i := 0) rfl)) rfl)) rfl ?_
 refine RL.effs (E.stB (j := 2) (off := 0) (vs := (rv1.f_Key.cs ++ [v64 t51, v64 t52, v64 rv1.f_First, v64 (gmax rv1.f_Last tick3), v8 (bits .or .u8 rv1.f_Flags p2.f_Flags), v8 rv1.f_Reason, v8 rv1.f_Class])) (cs' := (rv1.f_Key.cs ++ [v64 t51, v64 t52, v64 rv1.f_First, v64 (gmax rv1.f_Last tick3), v8 (bits .or .u8 rv1.f_Flags p2.f_Flags), v8 rv1.f_Reason, v8 rv1.f_Class])) hM rfl sz62 rfl (adds_eq [] rfl) rfl rfl (One.all rfl) rfl rfl) fun w67 hM1 => ?_
 clear hM
 have hM := hM1
 clear hM1
 refine nt hQ66 ?_
 clear hQ66 Q66
 refine KC.ret ?_
 have hE := Option.some.inj hF
 clear hF
 subst hE
 have hb68 := hM.bx (i := 2) rfl
 replace hM := hM.pick [] rfl (by decide)
 refine KQ.rets Tryz.results44 (RVs.cons (RV.cN (cs := (rv1.f_Key.cs ++ [v64 t51, v64 t52, v64 rv1.f_First, v64 (gmax rv1.f_Last tick3), v8 (bits .or .u8 rv1.f_Flags p2.f_Flags), v8 rv1.f_Reason, v8 rv1.f_Class])) rfl ag62 hb68) RVs.nil) ?_
 exact ⟨_, rfl, rfl, hM⟩
set_option maxRecDepth 100000 in
set_option maxHeartbeats 40000000 in
theorem c_cache_seen (w : World) (p1 : T_packet_Packet) (r : Bool) (hF : F_cache_seen p1 = some r) :
  CallsR Tryz.prog 45 [.agg (p1.cs).toArray] w (fun v w' => v = vB r ∧ Mem w [] w' []) := by
 refine calls_KC Tryz.func45 rfl Tryz.ntmps45 rfl ?_
 have hM := Mem.init w
 unfold F_cache_seen at hF
 refine sr fun Q2 hQ2 => ?_
 refine RL.eff (E.box (vs := (p1.cs)) hM rfl rfl) rfl fun v w4 hv => ?_
 clear hM
 obtain ⟨g3, rfl, hM, hf⟩ := hv
 refine va rfl rfl ?_
 refine nt hQ2 ?_
 clear hQ2 Q2
 refine KC.cut (fun a w7 => ∃ (t6 : Bool), Kn 18 [(2, vB t6)] a ∧ Mem w [] w7 [] ∧ F_cache_seen_j1 t6 = some r) ?_ ?_
 ·refine KC.region ?_
  refine RL.val (O.fldA fl44_0 (by decide) rfl) rfl ?_
  refine RL.val (O.fldA fl42_2 (by decide) rfl) rfl ?_
  refine RL.val (O.load sc5 rfl (Cs.adds [0, 34] ((hM.bx (i := 0) rfl)) rfl)) rfl ?_
  refine RL.val (O.eql rfl rfl) rfl ?_
  refine vm rfl rfl ?_
  refine RL.bcase (t := 7) rfl (fun hc => ?_) (fun hc => ?_)
  ·rw [if_pos hc] at hF
   refine RL.gval rfl rfl (O.fldA fl44_3 (by decide) rfl) rfl ?_
   refine RL.gval rfl rfl (O.load sc4 rfl (Cs.adds [39] ((hM.bx (i := 0) rfl)) rfl)) rfl ?_
   refine RL.gval rfl rfl (O.not rfl) rfl ?_
   refine RL.val (O.pickt rfl rfl) rfl ?_
   refine vm rfl rfl ?_
   refine RL.bcase (t := 12) rfl (fun hc => ?_) (fun hc => ?_)
   ·rw [if_pos hc] at hF
    refine RL.gval rfl rfl (O.fldA fl44_2 (by decide) rfl) rfl ?_
    refine RL.gval rfl rfl (O.load sc5 rfl (Cs.adds [38] ((hM.bx (i := 0) rfl)) rfl)) rfl ?_
    refine RL.gval rfl rfl (O.and rfl rfl) rfl ?_
    refine RL.gval rfl rfl (O.gtr rfl rfl) rfl ?_
    refine RL.val (O.pickt rfl rfl) rfl ?_
    refine va rfl rfl ?_
    refine RL.nil ?_
    refine KQ.then_k ?_
    replace hM := hM.pick [] rfl (by decide)
    exact fun a ha => ⟨(decide (0 < (bits .and .u8 p1.f_Flags 5))), ha.less (less_cons rfl less_nil), hM, hF⟩
   rw [if_neg (ne_true hc)] at hF
   refine RL.brun1 5 17 false (by kernel_rfl) ?_
   refine va rfl rfl ?_
   refine RL.nil ?_
   refine KQ.then_k ?_
   replace hM := hM.pick [] rfl (by decide)
   exact fun a ha => ⟨false, ha.less (less_cons rfl less_nil), hM, hF⟩
  rw [if_neg (ne_true hc)] at hF
  refine RL.brun1 10 17 false (by kernel_rfl) ?_
  refine va rfl rfl ?_
  refine RL.nil ?_
  refine KQ.then_k ?_
  replace hM := hM.pick [] rfl (by decide)
  exact fun a ha => ⟨false, ha.less (less_cons rfl less_nil), hM, hF⟩
 rintro a w7 ⟨t6, ha, hM, hF⟩
 refine KC.app ha ?_
 clear ha
 unfold F_cache_seen_j1 at hF
 refine KC.ret ?_
 have hE := Option.some.inj hF
 clear hF
 subst hE
 refine KQ.rets Tryz.results45 (RVs.cons (RV.tm rfl) RVs.nil) ?_
 exact ⟨_, rfl, rfl, hM⟩
end Go.Proofs.YtkpnocgfhipidaaGreat
