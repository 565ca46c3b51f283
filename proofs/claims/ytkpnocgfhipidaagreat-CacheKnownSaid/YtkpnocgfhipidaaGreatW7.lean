/- Printed by a program of this claim: each call returns what the plain function of its name gives. -/
import Derived.Test.YtkpnocgfhipidaaGreatW1
import Derived.Test.YtkpnocgfhipidaaGreatW6
set_option linter.unusedVariables false
set_option maxRecDepth 100000
set_option maxHeartbeats 40000000
namespace Go.Proofs.YtkpnocgfhipidaaGreat
open Go Go.Ox Go.RowKit
theorem VP (w : World) (rv1 : Xc) (p2 : XC) (tick3 : Int) (r : Xc) (hF : KH rv1 p2 tick3 = some r) :
  CallsR Tryz.prog 44 [.agg (rv1.cs).toArray, .agg (p2.cs).toArray, v64 tick3] w (fun v w' => v = .agg (r.cs).toArray ∧ Mem w [] w' []) := by
 refine XJ Tryz.func44 rfl Tryz.ntmps44 rfl ?_
 have hM := Mem.init w
 unfold KH at hF
 refine sr fun Q4 hQ4 => ?_
 refine RL.eff (E.box (vs := (rv1.cs)) hM rfl rfl) rfl fun v w6 hv => ?_
 clear hM
 obtain ⟨g5, rfl, hM, hf⟩ := hv
 refine RL.eff (E.box (vs := (p2.cs)) hM rfl rfl) rfl fun v w9 hv => ?_
 clear hM
 obtain ⟨g8, rfl, hM, hf⟩ := hv
 refine RL.eff (E.alloc hM ze62) rfl fun v w12 hv => ?_
 clear hM
 obtain ⟨g11, rfl, hM, hf⟩ := hv
 refine nt hQ4 ?_
 refine KC.cut (fun a w53 => ∃ (g50 : Nat) (t51 t52 : Int), Kn 34 [(2, v64 tick3), (3, .pointer (some ⟨g5, 0, none⟩)), (4, .pointer (some ⟨g8, 0, none⟩)), (6, .pointer (some ⟨g11, 0, none⟩)), (7, .pointer (some ⟨g50, 0, none⟩))] a ∧ Mem w [] w53 [.box g5 62 (rv1.cs), .box g8 44 (p2.cs), .box g11 62 (vB false :: (a16 (List.replicate 16 0) ++ (vB false :: (a16 (List.replicate 16 0) ++ [v8 0, v16 0, v16 0, v64 0, v64 0, v64 0, v64 0, v8 0, v8 0, v8 0])))), .box g50 100 [v64 t51, v64 t52]] ∧ KG rv1 p2 tick3 t51 t52 = some r) ?_ ?_
 ·replace hM := hM.drewN 1
  refine KC.draw [] [9] [1, 7, 8, 9] [2, 4, 5] (.cons 0 (.cons 2 (.cons 3 (.cons 4 (.cons 5 (.cons 6 (.alt 1 (.alt 7 (.ofList [8, 9]) 8 (.ofList [7, 9])) 8 (.ofList [1, 7, 9])))))))) moP (by kernel_rfl) ?_
  refine RD.q rfl rfl rfl rfl (fun w' hf => O.loadN (cs := (rv1.cs)) ag62 rfl (Cs.addsN [] ((hM.bx (i := 0) rfl).fut hf) rfl)) ?_
  refine RD.p rfl rfl rfl rfl (fun w' => O.fldA fl44_1 (by decide) rfl) ?_
  refine RD.q rfl rfl rfl rfl (fun w' hf => O.load sc3 rfl (Cs.adds [37] ((hM.bx (i := 1) rfl).fut hf) rfl)) ?_
  refine RD.p rfl rfl rfl rfl (fun w' => O.max2 rfl rfl) ?_
  refine RD.p rfl rfl rfl rfl (fun w' => O.conv un3 Tryz.underlying22 rfl) ?_
  refine RD.q rfl rfl rfl rfl (fun w' hf => O.bld (cs := [v64 1, v64 (IntKind.u64.wrap (gmax 0 p2.Yk))]) bt100 rfl (by kernel_rfl)) ?_
  refine RD.alt ?_ ?_
  ·refine Xx hF fun y14 hx15 hF => ?_
   refine RD.mcall rfl rfl trivial Tryz.func40 bd40 rfl rfl (K3 _ rv1 _ hx15) fun v w16 hv => ?_
   obtain ⟨rfl, hN17⟩ := hv
   refine ⟨fun _ => hN17.fut, ?_⟩
   replace hM := hM.call0 hN17
   refine RD.alt ?_ ?_
   ·refine Xx hF fun y18 hx19 hF => ?_
    refine RD.mcall rfl rfl trivial Tryz.func79 bd79 rfl rfl (Vl _ y14 (Yc.mk 1 (IntKind.u64.wrap (gmax 0 p2.Yk))) _ hx19) fun v w20 hv => ?_
    obtain ⟨rfl, hN21⟩ := hv
    refine ⟨fun _ => hN21.fut, ?_⟩
    replace hM := hM.call0 hN21
    refine RD.meff rfl rfl (E.alloc hM ze100) rfl fun v w23 hv => ?_
    clear hM
    obtain ⟨g22, rfl, hM, hf⟩ := hv
    refine ⟨fun _ => hf, ?_⟩
    refine RD.meffs rfl rfl rfl (E.stB (j := 3) (off := 0) (vs := [v64 y18.Xk, v64 y18.Xr]) (cs' := [v64 y18.Xk, v64 y18.Xr]) hM rfl sz100 rfl (XX [] rfl) rfl rfl (One.all rfl) rfl rfl) fun w25 hM1 => ?_
    clear hM
    have hM := hM1
    clear hM1
    refine RD.nil (KQ.Xy ?_)
    exact fun a ha => ⟨g22, y18.Xk, y18.Xr, ha.less (Xa rfl (Xa rfl (Xa rfl (Xa rfl (Xa rfl Xj))))), hM, hF⟩
   refine RD.meff rfl rfl (E.alloc hM ze100) rfl fun v w27 hv => ?_
   clear hM
   obtain ⟨g26, rfl, hM, hf⟩ := hv
   refine ⟨fun _ => hf, ?_⟩
   refine Xx hF fun y29 hx30 hF => ?_
   refine RD.mcall rfl rfl trivial Tryz.func79 bd79 rfl rfl (Vl _ y14 (Yc.mk 1 (IntKind.u64.wrap (gmax 0 p2.Yk))) _ hx30) fun v w31 hv => ?_
   obtain ⟨rfl, hN32⟩ := hv
   refine ⟨fun _ => hN32.fut, ?_⟩
   replace hM := hM.call0 hN32
   refine RD.meffs rfl rfl rfl (E.stB (j := 3) (off := 0) (vs := [v64 y29.Xk, v64 y29.Xr]) (cs' := [v64 y29.Xk, v64 y29.Xr]) hM rfl sz100 rfl (XX [] rfl) rfl rfl (One.all rfl) rfl rfl) fun w33 hM1 => ?_
   clear hM
   have hM := hM1
   clear hM1
   refine RD.nil (KQ.Xy ?_)
   exact fun a ha => ⟨g26, y29.Xk, y29.Xr, ha.less (Xa rfl (Xa rfl (Xa rfl (Xa rfl (Xa rfl Xj))))), hM, hF⟩
  refine RD.meff rfl rfl (E.alloc hM ze100) rfl fun v w35 hv => ?_
  clear hM
  obtain ⟨g34, rfl, hM, hf⟩ := hv
  refine ⟨fun _ => hf, ?_⟩
  refine Xx hF fun y37 hx38 hF => ?_
  refine RD.mcall rfl rfl trivial Tryz.func40 bd40 rfl rfl (K3 _ rv1 _ hx38) fun v w39 hv => ?_
  obtain ⟨rfl, hN40⟩ := hv
  refine ⟨fun _ => hN40.fut, ?_⟩
  replace hM := hM.call0 hN40
  refine Xx hF fun y41 hx42 hF => ?_
  refine RD.mcall rfl rfl trivial Tryz.func79 bd79 rfl rfl (Vl _ y37 (Yc.mk 1 (IntKind.u64.wrap (gmax 0 p2.Yk))) _ hx42) fun v w43 hv => ?_
  obtain ⟨rfl, hN44⟩ := hv
  refine ⟨fun _ => hN44.fut, ?_⟩
  replace hM := hM.call0 hN44
  refine RD.meffs rfl rfl rfl (E.stB (j := 3) (off := 0) (vs := [v64 y41.Xk, v64 y41.Xr]) (cs' := [v64 y41.Xk, v64 y41.Xr]) hM rfl sz100 rfl (XX [] rfl) rfl rfl (One.all rfl) rfl rfl) fun w45 hM1 => ?_
  clear hM
  have hM := hM1
  clear hM1
  refine RD.nil (KQ.Xy ?_)
  exact fun a ha => ⟨g34, y41.Xk, y41.Xr, ha.less (Xa rfl (Xa rfl (Xa rfl (Xa rfl (Xa rfl Xj))))), hM, hF⟩
 rintro a w53 ⟨g50, t51, t52, ha, hM, hF⟩
 refine KC.app ha ?_
 clear ha
 unfold KG at hF
 refine KC.cut (fun a w61 => Kn 34 [(2, v64 tick3), (3, .pointer (some ⟨g5, 0, none⟩)), (4, .pointer (some ⟨g8, 0, none⟩)), (6, .pointer (some ⟨g11, 0, none⟩))] a ∧ Mem w [] w61 [.box g5 62 (rv1.Xo.cs ++ [v64 t51, v64 t52, v64 rv1.X4, v64 rv1.Ya, v8 rv1.XO, v8 rv1.X9, v8 rv1.XU]), .box g8 44 (p2.cs), .box g11 62 (vB false :: (a16 (List.replicate 16 0) ++ (vB false :: (a16 (List.replicate 16 0) ++ [v8 0, v16 0, v16 0, v64 0, v64 0, v64 0, v64 0, v8 0, v8 0, v8 0]))))] ∧ KF rv1 p2 tick3 t51 t52 = some r) ?_ ?_
 ·replace hM := hM.drewN 1
  refine KC.draw [] [5, 7] [3, 5, 7] [0, 2, 4, 6] (.cons 0 (.cons 1 (.cons 2 (.cons 4 (.alt 3 (.ofList [5, 6, 7]) 5 (.ofList [3, 6, 7])))))) moP (by kernel_rfl) ?_
  refine RD.p rfl rfl rfl rfl (fun w' => O.fldA fl100_0 (by decide) rfl) ?_
  refine RD.q rfl rfl rfl rfl (fun w' hf => O.load sc22 rfl (Cs.adds [0] ((hM.bx (i := 3) rfl).fut hf) rfl)) ?_
  refine RD.p rfl rfl rfl rfl (fun w' => O.fldA fl100_1 (by decide) rfl) ?_
  refine RD.p rfl rfl rfl rfl (fun w' => O.fldA fl62_1 (by decide) rfl) ?_
  refine RD.alt ?_ ?_
  ·refine RD.mq rfl rfl (O.load sc22 rfl (Cs.adds [1] ((hM.bx (i := 3) rfl)) rfl)) rfl ?_
   refine RD.meffs rfl rfl rfl (E.stB (j := 0) (off := 37) (vs := [v64 t51]) (cs' := (rv1.Xo.cs ++ [v64 t51, v64 rv1.Xr, v64 rv1.X4, v64 rv1.Ya, v8 rv1.XO, v8 rv1.X9, v8 rv1.XU])) hM rfl sz22 rfl (XX [37] rfl) rfl rfl (One.all rfl) rfl rfl) fun w54 hM1 => ?_
   clear hM
   have hM := hM1
   clear hM1
   refine RD.p rfl rfl rfl rfl (fun w' => O.fldA fl62_2 (by decide) rfl) ?_
   refine RD.meffs rfl rfl rfl (E.stB (j := 0) (off := 38) (vs := [v64 t52]) (cs' := (rv1.Xo.cs ++ [v64 t51, v64 t52, v64 rv1.X4, v64 rv1.Ya, v8 rv1.XO, v8 rv1.X9, v8 rv1.XU])) hM rfl sz22 rfl (XX [38] rfl) rfl rfl (One.all rfl) rfl rfl) fun w55 hM1 => ?_
   clear hM
   have hM := hM1
   clear hM1
   refine RD.nil (KQ.Xy ?_)
   replace hM := hM.pick [0, 1, 2] rfl (by decide)
   exact fun a ha => ⟨ha.less (Xa rfl (Xa rfl (Xa rfl (Xa rfl Xj)))), hM, hF⟩
  refine RD.meffs rfl rfl rfl (E.stB (j := 0) (off := 37) (vs := [v64 t51]) (cs' := (rv1.Xo.cs ++ [v64 t51, v64 rv1.Xr, v64 rv1.X4, v64 rv1.Ya, v8 rv1.XO, v8 rv1.X9, v8 rv1.XU])) hM rfl sz22 rfl (XX [37] rfl) rfl rfl (One.all rfl) rfl rfl) fun w56 hM1 => ?_
  clear hM
  have hM := hM1
  clear hM1
  refine RD.mq rfl rfl (O.load sc22 rfl (Cs.adds [1] ((hM.bx (i := 3) rfl)) rfl)) rfl ?_
  refine RD.p rfl rfl rfl rfl (fun w' => O.fldA fl62_2 (by decide) rfl) ?_
  refine RD.meffs rfl rfl rfl (E.stB (j := 0) (off := 38) (vs := [v64 t52]) (cs' := (rv1.Xo.cs ++ [v64 t51, v64 t52, v64 rv1.X4, v64 rv1.Ya, v8 rv1.XO, v8 rv1.X9, v8 rv1.XU])) hM rfl sz22 rfl (XX [38] rfl) rfl rfl (One.all rfl) rfl rfl) fun w57 hM1 => ?_
  clear hM
  have hM := hM1
  clear hM1
  refine RD.nil (KQ.Xy ?_)
  replace hM := hM.pick [0, 1, 2] rfl (by decide)
  exact fun a ha => ⟨ha.less (Xa rfl (Xa rfl (Xa rfl (Xa rfl Xj)))), hM, hF⟩
 rintro a w61 ⟨ha, hM, hF⟩
 refine KC.app ha ?_
 clear ha
 unfold KF at hF
 refine sr fun Q62 hQ62 => ?_
 refine RL.val (O.fldA fl62_4 (by decide) rfl) rfl ?_
 refine RL.val (O.load sc22 rfl (Cs.adds [40] ((hM.bx (i := 0) rfl)) rfl)) rfl (vm rfl rfl (RL.val (O.max2 rfl rfl) rfl (RL.val (O.fldA fl62_4 (by decide) rfl) rfl ?_)))
 refine RL.effs (E.stB (j := 0) (off := 40) (vs := [v64 (gmax rv1.Ya tick3)]) (cs' := (rv1.Xo.cs ++ [v64 t51, v64 t52, v64 rv1.X4, v64 (gmax rv1.Ya tick3), v8 rv1.XO, v8 rv1.X9, v8 rv1.XU])) hM rfl sz22 rfl (XX [40] rfl) rfl rfl (One.all rfl) rfl rfl) fun w63 hM1 => ?_
 clear hM
 have hM := hM1
 clear hM1
 refine nt hQ62 ?_
 refine sr fun Q64 hQ64 => ?_
 refine RL.val (O.fldA fl62_5 (by decide) rfl) rfl ?_
 refine RL.val (O.load sc5 rfl (Cs.adds [41] ((hM.bx (i := 0) rfl)) rfl)) rfl (RL.val (O.fldA fl44_2 (by decide) rfl) rfl ?_)
 refine RL.val (O.load sc5 rfl (Cs.adds [38] ((hM.bx (i := 1) rfl)) rfl)) rfl (RL.val (O.or rfl rfl) rfl (RL.val (O.fldA fl62_5 (by decide) rfl) rfl ?_))
 refine RL.effs (E.stB (j := 0) (off := 41) (vs := [v8 (bits .or .u8 rv1.XO p2.XO)]) (cs' := (rv1.Xo.cs ++ [v64 t51, v64 t52, v64 rv1.X4, v64 (gmax rv1.Ya tick3), v8 (bits .or .u8 rv1.XO p2.XO), v8 rv1.X9, v8 rv1.XU])) hM rfl sz5 rfl (XX [41] rfl) rfl rfl (One.all rfl) rfl rfl) fun w65 hM1 => ?_
 clear hM
 have hM := hM1
 clear hM1
 refine nt hQ64 ?_
 refine sr fun Q66 hQ66 => ?_
 refine RL.val (O.loadN (cs := (rv1.Xo.cs ++ [v64 t51, v64 t52, v64 rv1.X4, v64 (gmax rv1.Ya tick3), v8 (bits .or .u8 rv1.XO p2.XO), v8 rv1.X9, v8 rv1.XU])) ag62 rfl (Cs.addsN [] ((hM.bx (i := 0) rfl)) rfl)) rfl ?_
 refine RL.effs (E.stB (j := 2) (off := 0) (vs := (rv1.Xo.cs ++ [v64 t51, v64 t52, v64 rv1.X4, v64 (gmax rv1.Ya tick3), v8 (bits .or .u8 rv1.XO p2.XO), v8 rv1.X9, v8 rv1.XU])) (cs' := (rv1.Xo.cs ++ [v64 t51, v64 t52, v64 rv1.X4, v64 (gmax rv1.Ya tick3), v8 (bits .or .u8 rv1.XO p2.XO), v8 rv1.X9, v8 rv1.XU])) hM rfl sz62 rfl (XX [] rfl) rfl rfl (One.all rfl) rfl rfl) fun w67 hM1 => ?_
 clear hM
 have hM := hM1
 clear hM1
 refine nt hQ66 (KC.ret ?_)
 have hE := Option.some.inj hF
 clear hF
 subst hE
 have hb68 := hM.bx (i := 2) rfl
 replace hM := hM.pick [] rfl (by decide)
 refine KQ.rets Tryz.results44 (RVs.cons (RV.cN (cs := (rv1.Xo.cs ++ [v64 t51, v64 t52, v64 rv1.X4, v64 (gmax rv1.Ya tick3), v8 (bits .or .u8 rv1.XO p2.XO), v8 rv1.X9, v8 rv1.XU])) rfl ag62 hb68) RVs.nil) ?_
 exact ⟨_, rfl, rfl, hM⟩
theorem Xbi (w : World) (p1 : XC) (r : Bool) (hF : Vr p1 = some r) :
  CallsR Tryz.prog 45 [.agg (p1.cs).toArray] w (fun v w' => v = vB r ∧ Mem w [] w' []) := by
 refine XJ Tryz.func45 rfl Tryz.ntmps45 rfl ?_
 have hM := Mem.init w
 unfold Vr at hF
 refine sr fun Q2 hQ2 => ?_
 refine RL.eff (E.box (vs := (p1.cs)) hM rfl rfl) rfl fun v w4 hv => ?_
 clear hM
 obtain ⟨g3, rfl, hM, hf⟩ := hv
 refine va rfl rfl (nt hQ2 ?_)
 refine KC.cut (fun a w7 => ∃ (t6 : Bool), Kn 18 [(2, vB t6)] a ∧ Mem w [] w7 [] ∧ KU t6 = some r) ?_ ?_
 ·refine KC.region (RL.val (O.fldA fl44_0 (by decide) rfl) rfl ?_)
  refine RL.val (O.fldA fl42_2 (by decide) rfl) rfl ?_
  refine RL.val (O.load sc5 rfl (Cs.adds [0, 34] ((hM.bx (i := 0) rfl)) rfl)) rfl (RL.val (O.eql rfl rfl) rfl (vm rfl rfl ?_))
  refine RL.bcase (t := 7) rfl (fun hc => ?_) (fun hc => ?_)
  ·rw [if_pos hc] at hF
   refine RL.gval rfl rfl (O.fldA fl44_3 (by decide) rfl) rfl ?_
   refine RL.gval rfl rfl (O.load sc4 rfl (Cs.adds [39] ((hM.bx (i := 0) rfl)) rfl)) rfl (RL.gval rfl rfl (O.not rfl) rfl (RL.val (O.pickt rfl rfl) rfl (vm rfl rfl ?_)))
   refine RL.bcase (t := 12) rfl (fun hc => ?_) (fun hc => ?_)
   ·rw [if_pos hc] at hF
    refine RL.gval rfl rfl (O.fldA fl44_2 (by decide) rfl) rfl ?_
    refine RL.gval rfl rfl (O.load sc5 rfl (Cs.adds [38] ((hM.bx (i := 0) rfl)) rfl)) rfl (RL.gval rfl rfl (O.and rfl rfl) rfl (RL.gval rfl rfl (O.gtr rfl rfl) rfl (RL.val (O.pickt rfl rfl) rfl (va rfl rfl (RL.nil (KQ.Xy ?_))))))
    replace hM := hM.pick [] rfl (by decide)
    exact fun a ha => ⟨(decide (0 < (bits .and .u8 p1.XO 5))), ha.less (Xa rfl Xj), hM, hF⟩
   rw [if_neg (Xv hc)] at hF
   refine RL.brun1 5 17 false (by kernel_rfl) ?_
   refine va rfl rfl (RL.nil (KQ.Xy ?_))
   replace hM := hM.pick [] rfl (by decide)
   exact fun a ha => ⟨false, ha.less (Xa rfl Xj), hM, hF⟩
  rw [if_neg (Xv hc)] at hF
  refine RL.brun1 10 17 false (by kernel_rfl) ?_
  refine va rfl rfl (RL.nil (KQ.Xy ?_))
  replace hM := hM.pick [] rfl (by decide)
  exact fun a ha => ⟨false, ha.less (Xa rfl Xj), hM, hF⟩
 rintro a w7 ⟨t6, ha, hM, hF⟩
 refine KC.app ha ?_
 clear ha
 unfold KU at hF
 refine KC.ret ?_
 have hE := Option.some.inj hF
 clear hF
 subst hE
 refine KQ.rets Tryz.results45 (RVs.cons (RV.tm rfl) RVs.nil) ?_
 exact ⟨_, rfl, rfl, hM⟩
end Go.Proofs.YtkpnocgfhipidaaGreat
