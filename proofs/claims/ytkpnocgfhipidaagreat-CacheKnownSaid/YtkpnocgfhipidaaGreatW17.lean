/- Printed by a program of this claim: each call returns what the plain function of its name gives. -/
import Derived.Test.YtkpnocgfhipidaaGreatW1
import Derived.Test.YtkpnocgfhipidaaGreatW2
import Derived.Test.YtkpnocgfhipidaaGreatW6
import Derived.Test.YtkpnocgfhipidaaGreatW8
import Derived.Test.YtkpnocgfhipidaaGreatW13
import Derived.Test.YtkpnocgfhipidaaGreatW14
set_option linter.unusedVariables false
set_option maxRecDepth 100000
set_option maxHeartbeats 40000000
namespace Go.Proofs.YtkpnocgfhipidaaGreat
open Go Go.Ox Go.RowKit
theorem Vj (w : World) (nv1 tick2 : Int) (r : XF) (hF : ZO nv1 tick2 = some r) :
  CallsR Tryz.prog 11 [vI nv1, v64 tick2] w (fun v w' => v = .agg (r.cs).toArray ∧ Mem w [] w' []) := by
 refine XJ Tryz.func11 rfl Tryz.ntmps11 rfl ?_
 have hM := Mem.init w
 unfold ZO at hF
 refine sr fun Q3 hQ3 => ?_
 refine RL.eff (E.alloc hM ze46) rfl fun v w5 hv => ?_
 clear hM
 obtain ⟨g4, rfl, hM, hf⟩ := hv
 refine nt hQ3 ?_
 refine sr fun Q7 hQ7 => ?_
 refine vm rfl rfl (RL.val (O.rem rfl rfl (by decide)) rfl ?_)
 refine RL.val (O.mul rfl rfl) rfl (RL.val (O.add rfl rfl) rfl (RL.val (O.conv un3 Tryz.underlying5 rfl) rfl (vm rfl rfl (RL.val (O.rem rfl rfl (by decide)) rfl ?_))))
 refine RL.val (O.conv un3 Tryz.underlying40 rfl) rfl (RL.val (O.bld (cs := (vB false :: (a16 (List.replicate 16 0) ++ (vB false :: (a16 (List.replicate 16 0) ++ [v8 (IntKind.u8.wrap (IntKind.i64.wrap (6 + (IntKind.i64.wrap (11 * (Int.tmod nv1 2)))))), v16 (IntKind.u16.wrap (Int.tmod nv1 5)), v16 80]))))) bt42 rfl (by kernel_rfl)) rfl ?_)
 refine RL.eff (E.alloc hM ze42) rfl fun v w9 hv => ?_
 clear hM
 obtain ⟨g8, rfl, hM, hf⟩ := hv
 refine RL.effs (E.stB (j := 1) (off := 0) (vs := (vB false :: (a16 (List.replicate 16 0) ++ (vB false :: (a16 (List.replicate 16 0) ++ [v8 (IntKind.u8.wrap (IntKind.i64.wrap (6 + (IntKind.i64.wrap (11 * (Int.tmod nv1 2)))))), v16 (IntKind.u16.wrap (Int.tmod nv1 5)), v16 80]))))) (cs' := (vB false :: (a16 (List.replicate 16 0) ++ (vB false :: (a16 (List.replicate 16 0) ++ [v8 (IntKind.u8.wrap (IntKind.i64.wrap (6 + (IntKind.i64.wrap (11 * (Int.tmod nv1 2)))))), v16 (IntKind.u16.wrap (Int.tmod nv1 5)), v16 80]))))) hM rfl sz42 rfl (XX [] rfl) rfl rfl (One.all rfl) rfl rfl) fun w11 hM1 => ?_
 clear hM
 have hM := hM1
 clear hM1
 refine nt hQ7 ?_
 refine KC.cut (fun a w19 => ∃ (kv16 kv17 kv18 : Int), Kn 44 [(0, vI nv1), (1, v64 tick2), (4, .pointer (some ⟨g4, 0, none⟩)), (5, .pointer (some ⟨g8, 0, none⟩))] a ∧ Mem w [] w19 [.box g4 46 (vI 0 :: vB false :: (a16 (List.replicate 16 0) ++ (vB false :: (a16 (List.replicate 16 0) ++ [v8 0, v16 0, v16 0, vI 0, v8 0, vB false, v8 0, v64 0])))), .box g8 42 (vB false :: (a16 (List.replicate 16 0) ++ (vB false :: (a16 (List.replicate 16 0) ++ [v8 kv16, v16 kv17, v16 kv18]))))] ∧ Uf nv1 tick2 kv16 kv17 kv18 = some r) ?_ ?_
 ·refine sr fun Q12 hQ12 => ?_
  refine vm rfl rfl (RL.val (O.rem rfl rfl (by decide)) rfl ?_)
  refine RL.val (O.eql rfl rfl) rfl (nt hQ12 ?_)
  refine KC.cond rfl (fun hc => ?_) (fun hc => ?_)
  ·rw [if_pos hc] at hF
   refine KC.region (RL.val (O.bld (cs := (vB false :: (a16 (List.replicate 16 0) ++ (vB false :: (a16 (List.replicate 16 0) ++ [v8 0, v16 1, v16 0]))))) bt42 rfl (by kernel_rfl)) rfl ?_)
   refine RL.effs (E.stB (j := 1) (off := 0) (vs := (vB false :: (a16 (List.replicate 16 0) ++ (vB false :: (a16 (List.replicate 16 0) ++ [v8 0, v16 1, v16 0]))))) (cs' := (vB false :: (a16 (List.replicate 16 0) ++ (vB false :: (a16 (List.replicate 16 0) ++ [v8 0, v16 1, v16 0]))))) hM rfl sz42 rfl (XX [] rfl) rfl rfl (One.all rfl) rfl rfl) fun w13 hM1 => ?_
   clear hM
   have hM := hM1
   clear hM1
   refine RL.nil (KQ.Xy ?_)
   exact fun a ha => ⟨0, 1, 0, ha.less (Xa rfl (Xa rfl (Xa rfl (Xa rfl Xj)))), hM, hF⟩
  rw [if_neg (Xv hc)] at hF
  refine KC.skip (KQ.Xy ?_)
  exact fun a ha => ⟨(IntKind.u8.wrap (IntKind.i64.wrap (6 + (IntKind.i64.wrap (11 * (Int.tmod nv1 2)))))), (IntKind.u16.wrap (Int.tmod nv1 5)), 80, ha.less (Xa rfl (Xa rfl (Xa rfl (Xa rfl Xj)))), hM, hF⟩
 rintro a w19 ⟨kv16, kv17, kv18, ha, hM, hF⟩
 refine KC.app ha ?_
 clear ha
 unfold Uf at hF
 refine KC.seqH fun Q20 hQ20 => ?_
 replace hM := hM.drewN 1
 refine KC.draw [] [25] [25] [0, 1, 2, 3, 4, 5, 6, 7, 8, 10, 11, 12, 13, 14, 15, 16, 17, 18, 20, 21, 22, 23] (.ofList [0, 1, 2, 3, 4, 5, 6, 7, 8, 9, 10, 11, 12, 13, 14, 15, 16, 17, 18, 19, 20, 21, 22, 23, 24, 25]) moP (by kernel_rfl) ?_
 refine RD.p rfl rfl rfl rfl (fun w' => O.move rfl) ?_
 refine RD.p rfl rfl rfl rfl (fun w' => O.quo rfl rfl (by decide)) ?_
 refine RD.p rfl rfl rfl rfl (fun w' => O.rem rfl rfl (by decide)) ?_
 refine RD.p rfl rfl rfl rfl (fun w' => O.move rfl) ?_
 refine RD.p rfl rfl rfl rfl (fun w' => O.rem rfl rfl (by decide)) ?_
 refine RD.p rfl rfl rfl rfl (fun w' => O.quo rfl rfl (by decide)) ?_
 refine RD.p rfl rfl rfl rfl (fun w' => O.mul rfl rfl) ?_
 refine RD.p rfl rfl rfl rfl (fun w' => O.add rfl rfl) ?_
 refine XZ hF fun hq21 hF => ?_
 refine RD.p rfl rfl rfl rfl (fun w' => O.rem rfl rfl (of_decide_eq_true hq21)) ?_
 refine RD.q rfl rfl rfl rfl (fun w' hf => O.loadN (cs := (vB false :: (a16 (List.replicate 16 0) ++ (vB false :: (a16 (List.replicate 16 0) ++ [v8 kv16, v16 kv17, v16 kv18]))))) ag42 rfl (Cs.addsN [] ((hM.bx (i := 1) rfl).fut hf) rfl)) ?_
 refine RD.p rfl rfl rfl rfl (fun w' => O.move rfl) ?_
 refine RD.p rfl rfl rfl rfl (fun w' => O.rem rfl rfl (by decide)) ?_
 refine RD.p rfl rfl rfl rfl (fun w' => O.move rfl) ?_
 refine RD.p rfl rfl rfl rfl (fun w' => O.quo rfl rfl (by decide)) ?_
 refine RD.p rfl rfl rfl rfl (fun w' => O.rem rfl rfl (by decide)) ?_
 refine XZ hF fun hq22 hF => ?_
 refine RD.p rfl rfl rfl rfl (fun w' => O.shl rfl rfl (of_decide_eq_true hq22)) ?_
 refine RD.p rfl rfl rfl rfl (fun w' => O.move rfl) ?_
 refine RD.p rfl rfl rfl rfl (fun w' => O.rem rfl rfl (by decide)) ?_
 refine RD.p rfl rfl rfl rfl (fun w' => O.eql rfl rfl) ?_
 refine RD.q rfl rfl rfl rfl (fun w' hf => O.bld (cs := (vB false :: (a16 (List.replicate 16 0) ++ (vB false :: (a16 (List.replicate 16 0) ++ [v8 kv16, v16 kv17, v16 kv18, vI (Int.tmod nv1 400), v8 (Ox.shl .u8 1 (Int.tmod (IntKind.i64.wrap (Int.tdiv nv1 7)) 8)), vB ((Int.tmod nv1 13) == 0)]))))) bt44 rfl (by kernel_rfl)) ?_
 refine RD.p rfl rfl rfl rfl (fun w' => O.move rfl) ?_
 refine RD.p rfl rfl rfl rfl (fun w' => O.rem rfl rfl (by decide)) ?_
 refine RD.p rfl rfl rfl rfl (fun w' => O.conv un3 Tryz.underlying5 rfl) ?_
 refine RD.p rfl rfl rfl rfl (fun w' => O.move rfl) ?_
 refine RD.q rfl rfl rfl rfl (fun w' hf => O.bld (cs := (vI (Int.tmod (Int.tmod (IntKind.i64.wrap (Int.tdiv nv1 5)) 10) (IntKind.i64.wrap (6 + (IntKind.i64.wrap ((IntKind.i64.wrap (Int.tdiv (Int.tmod nv1 29) 26)) * 3))))) :: vB false :: (a16 (List.replicate 16 0) ++ (vB false :: (a16 (List.replicate 16 0) ++ [v8 kv16, v16 kv17, v16 kv18, vI (Int.tmod nv1 400), v8 (Ox.shl .u8 1 (Int.tmod (IntKind.i64.wrap (Int.tdiv nv1 7)) 8)), vB ((Int.tmod nv1 13) == 0), v8 (IntKind.u8.wrap (Int.tmod nv1 3)), v64 tick2]))))) bt46 rfl (by kernel_rfl)) ?_
 refine RD.meffs rfl rfl rfl (E.stB (j := 0) (off := 0) (vs := (vI (Int.tmod (Int.tmod (IntKind.i64.wrap (Int.tdiv nv1 5)) 10) (IntKind.i64.wrap (6 + (IntKind.i64.wrap ((IntKind.i64.wrap (Int.tdiv (Int.tmod nv1 29) 26)) * 3))))) :: vB false :: (a16 (List.replicate 16 0) ++ (vB false :: (a16 (List.replicate 16 0) ++ [v8 kv16, v16 kv17, v16 kv18, vI (Int.tmod nv1 400), v8 (Ox.shl .u8 1 (Int.tmod (IntKind.i64.wrap (Int.tdiv nv1 7)) 8)), vB ((Int.tmod nv1 13) == 0), v8 (IntKind.u8.wrap (Int.tmod nv1 3)), v64 tick2]))))) (cs' := (vI (Int.tmod (Int.tmod (IntKind.i64.wrap (Int.tdiv nv1 5)) 10) (IntKind.i64.wrap (6 + (IntKind.i64.wrap ((IntKind.i64.wrap (Int.tdiv (Int.tmod nv1 29) 26)) * 3))))) :: vB false :: (a16 (List.replicate 16 0) ++ (vB false :: (a16 (List.replicate 16 0) ++ [v8 kv16, v16 kv17, v16 kv18, vI (Int.tmod nv1 400), v8 (Ox.shl .u8 1 (Int.tmod (IntKind.i64.wrap (Int.tdiv nv1 7)) 8)), vB ((Int.tmod nv1 13) == 0), v8 (IntKind.u8.wrap (Int.tmod nv1 3)), v64 tick2]))))) hM rfl sz46 rfl (XX [] rfl) rfl rfl (One.all rfl) rfl rfl) fun w23 hM1 => ?_
 clear hM
 have hM := hM1
 clear hM1
 refine RD.nil (KQ.thn hQ20 (KC.ret ?_))
 have hE := Option.some.inj hF
 clear hF
 subst hE
 have hb24 := hM.bx (i := 0) rfl
 replace hM := hM.pick [] rfl (by decide)
 refine KQ.rets Tryz.results11 (RVs.cons (RV.cN (cs := (vI (Int.tmod (Int.tmod (IntKind.i64.wrap (Int.tdiv nv1 5)) 10) (IntKind.i64.wrap (6 + (IntKind.i64.wrap ((IntKind.i64.wrap (Int.tdiv (Int.tmod nv1 29) 26)) * 3))))) :: vB false :: (a16 (List.replicate 16 0) ++ (vB false :: (a16 (List.replicate 16 0) ++ [v8 kv16, v16 kv17, v16 kv18, vI (Int.tmod nv1 400), v8 (Ox.shl .u8 1 (Int.tmod (IntKind.i64.wrap (Int.tdiv nv1 7)) 8)), vB ((Int.tmod nv1 13) == 0), v8 (IntKind.u8.wrap (Int.tmod nv1 3)), v64 tick2]))))) rfl ag46 hb24) RVs.nil) ?_
 exact ⟨_, rfl, rfl, hM⟩
theorem Xbr (w : World) (i1 nv2 r : Int) (hF : V0 i1 nv2 = some r) :
  CallsR Tryz.prog 35 [vI i1, vI nv2] w (fun v w' => v = vI r ∧ Mem w [] w' []) := by
 refine XJ Tryz.func35 rfl Tryz.ntmps35 rfl ?_
 have hM := Mem.init w
 unfold V0 at hF
 refine sr fun Q3 hQ3 => ?_
 refine va rfl rfl (nt hQ3 ?_)
 refine KC.seqH fun Q4 hQ4 => ?_
 refine sr fun Q5 hQ5 => ?_
 refine vm rfl rfl (RL.val (O.leq rfl rfl) rfl (nt hQ5 ?_))
 refine KC.cond rfl (fun hc => ?_) (fun hc => ?_)
 ·rw [if_pos hc] at hF
  refine sr fun Q6 hQ6 => ?_
  refine va rfl rfl (nt hQ6 (KC.ret (KQ.thr hQ4 ?_)))
  have hE := Option.some.inj hF
  clear hF
  subst hE
  refine KQ.rets Tryz.results35 (RVs.cons (RV.tm rfl) RVs.nil) ?_
  exact ⟨_, rfl, rfl, hM⟩
 rw [if_neg (Xv hc)] at hF
 refine KC.skip (KQ.thn hQ4 ?_)
 refine sr fun Q7 hQ7 => ?_
 refine vm rfl rfl (vm rfl rfl ?_)
 refine XZ hF fun hq8 hF => ?_
 refine RL.val (O.rem rfl rfl (of_decide_eq_true hq8)) rfl (vm rfl rfl (RL.val (O.add rfl rfl) rfl (vm rfl rfl ?_)))
 refine XZ hF fun hq9 hF => ?_
 refine RL.val (O.rem rfl rfl (of_decide_eq_true hq9)) rfl (va rfl rfl (nt hQ7 (KC.ret ?_)))
 have hE := Option.some.inj hF
 clear hF
 subst hE
 refine KQ.rets Tryz.results35 (RVs.cons (RV.tm rfl) RVs.nil) ?_
 exact ⟨_, rfl, rfl, hM⟩
theorem Xa4 (w : World) (g2 : Nat) (tg12 : TypeId) (cv1 : Xl) (g4 : Nat) (A6 : Option Addr) (c7 : Nat) (A9 : Option Addr) (c10 : Nat) (hL14 : Lent w [.box g2 tg12 (v64 cv1.XB :: (cv1.Xb.cs ++ [.pointer (some ⟨g4, 0, none⟩), .slice A9 (cv1.Xh).length c10])), .box g4 119 [.slice A6 (cv1.Xf.Xp).length c7, vI cv1.Xf.XG], .row A6 c7 140 39 (cv1.Xf.Xp).length ((cv1.Xf.Xp).flatMap Xt), .row A9 c10 62 44 (cv1.Xh).length ((cv1.Xh).flatMap Xn)]) (b13 : Xg) (r : Bool × Xl) (hF : UY cv1 b13 = some r) :
  CallsR Tryz.prog 36 [.pointer (some ⟨g2, 0, none⟩), .agg (b13.cs).toArray] w (fun v w' => ∃ (g0 : Nat) (A1 : Option Addr) (c1 : Nat) (A2 : Option Addr) (c2 : Nat), v = vB r.1 ∧ Mem w [some g2, some g4, rblk A6 c7, rblk A9 c10] w' [.box g2 tg12 (v64 r.2.XB :: (r.2.Xb.cs ++ [.pointer (some ⟨g0, 0, none⟩), .slice A2 (r.2.Xh).length c2])), .box g0 119 [.slice A1 (r.2.Xf.Xp).length c1, vI r.2.Xf.XG], .row A1 c1 140 39 r.2.Xf.Xp.length (r.2.Xf.Xp.flatMap Xt), .row A2 c2 62 44 r.2.Xh.length (r.2.Xh.flatMap Xn)]) := by
 refine XJ Tryz.func36 rfl Tryz.ntmps36 rfl ?_
 have hM : Mem w [some g2, some g4, rblk A6 c7, rblk A9 c10] w [.box g2 tg12 (v64 cv1.XB :: (cv1.Xb.cs ++ [.pointer (some ⟨g4, 0, none⟩), .slice A9 (cv1.Xh).length c10])), .box g4 119 [.slice A6 (cv1.Xf.Xp).length c7, vI cv1.Xf.XG], .row A6 c7 140 39 (cv1.Xf.Xp).length ((cv1.Xf.Xp).flatMap Xt), .row A9 c10 62 44 (cv1.Xh).length ((cv1.Xh).flatMap Xn)] := Mem.lendN hL14
 unfold UY at hF
 refine sr fun Q15 hQ15 => ?_
 refine RL.eff (E.box (vs := (b13.cs)) hM rfl rfl) rfl fun v w17 hv => ?_
 clear hM
 obtain ⟨g16, rfl, hM, hf⟩ := hv
 refine va rfl rfl (nt hQ15 ?_)
 refine sr fun Q19 hQ19 => ?_
 refine vm rfl rfl ?_
 refine Xx hF fun y20 hx21 hF => ?_
 refine RL.call Tryz.func17 bd17 rfl rfl (U9 _ _ _ cv1 _ _ _ _ _ (hM.lent [0, 1, 2, 3] rfl (by decide)) _ hx21) fun v w22 hv => ?_
 obtain ⟨g24, A26, c27, A29, c30, rfl, hN23⟩ := hv
 replace hM := hM.callL [0, 1, 2, 3] [4] rfl rfl (by decide) rfl hN23
 refine vm rfl rfl (RL.val (O.ext rfl rfl) rfl (RL.val (O.ext rfl rfl) rfl (va rfl rfl (va rfl rfl (nt hQ19 ?_)))))
 refine KC.seqH fun Q32 hQ32 => ?_
 refine KC.cut (fun a w43 => ∃ (t42 : Bool), Kn 53 [(0, .pointer (some ⟨g2, 0, none⟩)), (3, .pointer (some ⟨g16, 0, none⟩)), (20, vB t42)] a ∧ Mem w [some g2, some g4, rblk A6 c7, rblk A9 c10] w43 [.row A26 c27 140 39 (y20.2.2.Xf.Xp).length ((y20.2.2.Xf.Xp).flatMap Xt), .box g24 119 [.slice A26 (y20.2.2.Xf.Xp).length c27, vI y20.2.2.Xf.XG], .row A29 c30 62 44 (y20.2.2.Xh).length ((y20.2.2.Xh).flatMap Xn), .box g2 tg12 (v64 y20.2.2.XB :: (y20.2.2.Xb.cs ++ [.pointer (some ⟨g24, 0, none⟩), .slice A29 (y20.2.2.Xh).length c30])), .box g16 24 (b13.cs)] ∧ Ku b13 y20 t42 = some r) ?_ ?_
 ·refine KC.region (vm rfl rfl (vm rfl rfl ?_))
  refine RL.bcase (t := 15) rfl (fun hc => ?_) (fun hc => ?_)
  ·rw [if_pos hc] at hF
   refine RL.gval rfl rfl (O.move rfl) rfl (RL.gval rfl rfl (O.move rfl) rfl ?_)
   refine Xx hF fun y33 hx34 hF => ?_
   refine RL.gcall rfl rfl Tryz.func34 bd34 rfl rfl (ZG _ _ _ y20.2.2 _ _ (hM.lent [1] rfl (by decide)) _ hx34) fun v w35 hv => ?_
   obtain ⟨rfl, hN36⟩ := hv
   replace hM := hM.call0 hN36
   refine RL.gval rfl rfl (O.leq rfl rfl) rfl (RL.val (O.pickt rfl rfl) rfl (RL.nil (KQ.Xy ?_)))
   replace hM := hM.pick [3, 2, 4, 1, 0] rfl (by decide)
   exact fun a ha => ⟨(decide (y20.1 ≤ y33)), ha.less (Xa rfl (Xa rfl (Xa rfl Xj))), hM, hF⟩
  rw [if_neg (Xv hc)] at hF
  refine RL.brun1 5 20 false (by kernel_rfl) ?_
  refine RL.nil (KQ.Xy ?_)
  replace hM := hM.pick [3, 2, 4, 1, 0] rfl (by decide)
  exact fun a ha => ⟨false, ha.less (Xa rfl (Xa rfl (Xa rfl Xj))), hM, hF⟩
 rintro a w43 ⟨t42, ha, hM, hF⟩
 refine KC.app ha ?_
 clear ha
 unfold Ku at hF
 refine KC.cond rfl (fun hc => ?_) (fun hc => ?_)
 ·rw [if_pos hc] at hF
  refine sr fun Q44 hQ44 => ?_
  refine va rfl rfl (nt hQ44 (KC.ret (KQ.thr hQ32 ?_)))
  have hE := Option.some.inj hF
  clear hF
  subst hE
  replace hM := hM.pick [3, 1, 0, 2] rfl (by decide)
  refine KQ.rets Tryz.results36 (RVs.cons (RV.tm rfl) RVs.nil) ?_
  exact ⟨_, rfl, g24, A26, c27, A29, c30, rfl, hM⟩
 rw [if_neg (Xv hc)] at hF
 refine KC.skip (KQ.thn hQ32 ?_)
 refine sr fun Q45 hQ45 => ?_
 refine vm rfl rfl ?_
 refine Xx hF fun y46 hx47 hF => ?_
 refine RL.call Tryz.func33 bd33 rfl rfl (YY _ _ _ y20.2.2 _ _ _ _ _ (hM.lent [3, 1, 0, 2] rfl (by decide)) _ hx47) fun v w48 hv => ?_
 obtain ⟨g50, A52, c53, A55, c56, A58, c59, rfl, hN49⟩ := hv
 replace hM := hM.callL [3, 1, 0, 2] [4] rfl rfl (by decide) rfl hN49
 refine va rfl rfl (nt hQ45 ?_)
 refine KC.seqH fun Q61 hQ61 => ?_
 refine sr fun Q62 hQ62 => ?_
 refine va rfl rfl (nt hQ62 (KC.block ?_))
 refine KC.loop (fun k131 a w129 => ∃ (i128 : Int), Kn 53 [(0, .pointer (some ⟨g2, 0, none⟩)), (3, .pointer (some ⟨g16, 0, none⟩)), (7, .slice A58 (y46.1).length c59), (8, vI i128)] a ∧ Mem w [some g2, some g4, rblk A6 c7, rblk A9 c10] w129 [.row A52 c53 140 39 (y46.2.Xf.Xp).length ((y46.2.Xf.Xp).flatMap Xt), .box g50 119 [.slice A52 (y46.2.Xf.Xp).length c53, vI y46.2.Xf.XG], .row A55 c56 62 44 (y46.2.Xh).length ((y46.2.Xh).flatMap Xn), .box g2 tg12 (v64 y46.2.XB :: (y46.2.Xb.cs ++ [.pointer (some ⟨g50, 0, none⟩), .slice A55 (y46.2.Xh).length c56])), .box g16 24 (b13.cs), .row A58 c59 62 44 (y46.1).length ((y46.1).flatMap Xn)] ∧ J9 b13 y46 k131 i128 = some r) ?_ ?_
 ·replace hM := hM.pick [3, 2, 4, 1, 0, 5] rfl (by decide)
  exact fun a ha => ⟨fuel0, 0, ha.less (Xa rfl (Xa rfl (Xa rfl (Xa rfl Xj)))), hM, hF⟩
 rintro k131 a w129 ⟨i128, ha, hM, hF⟩
 refine KC.app ha ?_
 clear ha
 cases k131 with
 | zero => exact (Yl hF).elim
 | succ k131 =>
 have hF : K9 (J9 b13 y46 k131) b13 y46 i128 = some r := hF
 unfold K9 at hF
 refine KC.seqH fun Q132 hQ132 => ?_
 refine sr fun Q133 hQ133 => ?_
 refine vm rfl rfl (vm rfl rfl (RL.val (O.len sl55 rfl) rfl (RL.val (O.lss rfl rfl) rfl (nt hQ133 ?_))))
 refine KC.cond rfl (fun hc => ?_) (fun hc => ?_)
 ·rw [if_pos hc] at hF
  refine KC.skip (KQ.thn hQ132 ?_)
  refine KC.seqH fun Q134 hQ134 => ?_
  refine KC.block ?_
  refine KC.cut (fun a w156 => ∃ (t155 : Bool), Kn 53 [(0, .pointer (some ⟨g2, 0, none⟩)), (3, .pointer (some ⟨g16, 0, none⟩)), (7, .slice A58 (y46.1).length c59), (8, vI i128), (52, vB t155)] a ∧ Mem w [some g2, some g4, rblk A6 c7, rblk A9 c10] w156 [.row A52 c53 140 39 (y46.2.Xf.Xp).length ((y46.2.Xf.Xp).flatMap Xt), .box g50 119 [.slice A52 (y46.2.Xf.Xp).length c53, vI y46.2.Xf.XG], .row A55 c56 62 44 (y46.2.Xh).length ((y46.2.Xh).flatMap Xn), .box g2 tg12 (v64 y46.2.XB :: (y46.2.Xb.cs ++ [.pointer (some ⟨g50, 0, none⟩), .slice A55 (y46.2.Xh).length c56])), .box g16 24 (b13.cs), .row A58 c59 62 44 (y46.1).length ((y46.1).flatMap Xn)] ∧ K7 y46 i128 (J9 b13 y46 k131) t155 = some r) ?_ ?_
  ·replace hM := hM.drewN 1
   refine KC.draw [] [] [1, 13] [0, 2, 3, 5, 7, 8, 10, 11, 12, 14, 15, 17, 19, 20, 22, 23] (.ofList [0, 2, 3, 4, 5, 6, 8, 9, 1, 7, 10, 11, 12, 14, 15, 16, 17, 18, 20, 21, 13, 19, 22, 23]) moP (by kernel_rfl) ?_
   refine RD.p rfl rfl rfl rfl (fun w' => O.move rfl) ?_
   refine RD.p rfl rfl rfl rfl (fun w' => O.move rfl) ?_
   refine RD.p rfl rfl rfl rfl (fun w' => O.move rfl) ?_
   refine Xx hF fun xv137 hx136 hF => ?_
   have hA135 := Rd.atN (f := Xn) (s := 44) (fun _ => rfl) (by decide) (hM.rd (i := 5) rfl) hx136
   refine RD.q rfl rfl rfl rfl (fun w' hf => O.idxA sl55 (hA135.fut hf) rfl rfl) ?_
   refine RD.p rfl rfl rfl rfl (fun w' => O.fldA fl62_3 (by decide) rfl) ?_
   refine RD.q rfl rfl rfl rfl (fun w' hf => O.load sc22 rfl (Cs.adds [39] (hA135.fut hf).cells rfl)) ?_
   refine RD.p rfl rfl rfl rfl (fun w' => O.fldA fl24_2 (by decide) rfl) ?_
   refine RD.q rfl rfl rfl rfl (fun w' hf => O.load sc22 rfl (Cs.adds [2] ((hM.bx (i := 4) rfl).fut hf) rfl)) ?_
   refine Xx hF fun y138 hx139 hF => ?_
   refine RD.mcall rfl rfl trivial Tryz.func34 bd34 rfl rfl (ZG _ _ _ y46.2 _ _ (hM.lent [3] rfl (by decide)) _ hx139) fun v w140 hv => ?_
   obtain ⟨rfl, hN141⟩ := hv
   refine ⟨fun _ => hN141.fut, ?_⟩
   replace hM := hM.call0 hN141
   refine RD.p rfl rfl rfl rfl (fun w' => O.sub rfl rfl) ?_
   refine RD.p rfl rfl rfl rfl (fun w' => O.geq rfl rfl) ?_
   refine RD.p rfl rfl rfl rfl (fun w' => O.move rfl) ?_
   refine RD.bcase (t := 40) rfl (fun hc => ?_) (fun hc => ?_)
   ·rw [if_pos hc] at hF
    refine RD.gskip rfl rfl rfl rfl rfl (RD.gskip rfl rfl rfl rfl rfl (RD.gskip rfl rfl rfl rfl rfl (RD.gskip rfl rfl rfl rfl rfl (RD.gskip rfl rfl rfl rfl rfl (RD.gskip rfl rfl rfl rfl rfl (RD.gskip rfl rfl rfl rfl rfl ?_))))))
    refine RD.gskip rfl rfl rfl rfl rfl (RD.gskip rfl rfl rfl rfl rfl (RD.gskip rfl rfl rfl rfl rfl (RD.gskip rfl rfl rfl rfl rfl ?_)))
    refine RD.p rfl rfl rfl rfl (fun w' => O.pickt rfl rfl) (RD.nil (KQ.Xy ?_))
    exact fun a ha => ⟨true, ha.less (Xa rfl (Xa rfl (Xa rfl (Xa rfl (Xa rfl Xj))))), hM, hF⟩
   rw [if_neg (Xv hc)] at hF
   refine RD.gp rfl rfl rfl rfl rfl rfl (fun w' => O.move rfl) ?_
   refine RD.gp rfl rfl rfl rfl rfl rfl (fun w' => O.move rfl) ?_
   refine RD.gp rfl rfl rfl rfl rfl rfl (fun w' => O.move rfl) ?_
   refine Xx hF fun xv144 hx143 hF => ?_
   have hA142 := Rd.atN (f := Xn) (s := 44) (fun _ => rfl) (by decide) (hM.rd (i := 5) rfl) hx143
   refine RD.gq rfl rfl rfl rfl rfl rfl (fun w' hf => O.idxA sl55 (hA142.fut hf) rfl rfl) ?_
   refine RD.gp rfl rfl rfl rfl rfl rfl (fun w' => O.fldA fl62_4 (by decide) rfl) ?_
   refine RD.gq rfl rfl rfl rfl rfl rfl (fun w' hf => O.load sc22 rfl (Cs.adds [40] (hA142.fut hf).cells rfl)) ?_
   refine RD.gp rfl rfl rfl rfl rfl rfl (fun w' => O.fldA fl24_1 (by decide) rfl) ?_
   refine RD.gq rfl rfl rfl rfl rfl rfl (fun w' hf => O.load sc22 rfl (Cs.adds [1] ((hM.bx (i := 4) rfl).fut hf) rfl)) ?_
   refine Xx hF fun y145 hx146 hF => ?_
   refine RD.mcall rfl rfl ⟨rfl, rfl⟩ Tryz.func34 bd34 rfl rfl (ZG _ _ _ y46.2 _ _ (hM.lent [3] rfl (by decide)) _ hx146) fun v w147 hv => ?_
   obtain ⟨rfl, hN148⟩ := hv
   refine ⟨fun _ => hN148.fut, ?_⟩
   replace hM := hM.call0 hN148
   refine RD.gp rfl rfl rfl rfl rfl rfl (fun w' => O.sub rfl rfl) ?_
   refine RD.gp rfl rfl rfl rfl rfl rfl (fun w' => O.geq rfl rfl) ?_
   refine RD.p rfl rfl rfl rfl (fun w' => O.pickf rfl rfl) (RD.nil (KQ.Xy ?_))
   exact fun a ha => ⟨(decide (b13.XI ≤ (IntKind.u64.wrap (y145 - xv144.Ya)))), ha.less (Xa rfl (Xa rfl (Xa rfl (Xa rfl (Xa rfl Xj))))), hM, hF⟩
  rintro a w156 ⟨t155, ha, hM, hF⟩
  refine KC.app ha ?_
  clear ha
  unfold K7 at hF
  refine KC.cond rfl (fun hc => ?_) (fun hc => ?_)
  ·rw [if_pos hc] at hF
   refine sr fun Q157 hQ157 => ?_
   refine va rfl rfl (nt hQ157 (KC.ret (KQ.blk_r (KQ.thr hQ134 (KQ.then_r (KQ.blk_r ?_))))))
   refine KQ.thr hQ61 ?_
   have hE := Option.some.inj hF
   clear hF
   subst hE
   replace hM := hM.pick [3, 1, 0, 2] rfl (by decide)
   refine KQ.rets Tryz.results36 (RVs.cons (RV.tm rfl) RVs.nil) ?_
   exact ⟨_, rfl, g50, A52, c53, A55, c56, rfl, hM⟩
  rw [if_neg (Xv hc)] at hF
  refine KC.skip (KQ.blk_n (KQ.thn hQ134 (KC.region (vm rfl rfl (RL.val (O.add rfl rfl) rfl (va rfl rfl ?_))))))
  refine RL.nil (KQ.Xy ?_)
  exact fun a ha => ⟨k131, Nat.lt_succ_self k131, (IntKind.i64.wrap (i128 + 1)), ha.less (Xa rfl (Xa rfl (Xa rfl (Xa rfl Xj)))), hM, hF⟩
 rw [if_neg (Xv hc)] at hF
 refine KC.exit (KQ.thx hQ132 (KQ.then_x (KQ.blk_x (KQ.thn hQ61 ?_))))
 replace hM := hM.pick [0, 1, 2, 3] rfl (by decide)
 refine sr fun Q158 hQ158 => ?_
 refine va rfl rfl (nt hQ158 (KC.ret ?_))
 have hE := Option.some.inj hF
 clear hF
 subst hE
 replace hM := hM.pick [3, 1, 0, 2] rfl (by decide)
 refine KQ.rets Tryz.results36 (RVs.cons (RV.tm rfl) RVs.nil) ?_
 exact ⟨_, rfl, g50, A52, c53, A55, c56, rfl, hM⟩
theorem Xay (w : World) (A2 : Option Addr) (c3 : Nat) (lv1 : List XD) (hL7 : Lent w [.row A2 c3 137 39 (lv1).length ((lv1).flatMap Yb)]) (kv5 : Xe) (t6 : Yc) (r : (List XD)) (hF : UD lv1 kv5 t6 = some r) :
  CallsR Tryz.prog 38 [.slice A2 (lv1).length c3, .agg (kv5.cs).toArray, .agg #[v64 t6.Xk, v64 t6.Xr]] w (fun v w' => ∃ (A0 : Option Addr) (c0 : Nat), v = .slice A0 (r).length c0 ∧ Mem w [rblk A2 c3] w' [.row A0 c0 137 39 r.length (r.flatMap Yb)]) := by
 refine XJ Tryz.func38 rfl Tryz.ntmps38 rfl ?_
 have hM : Mem w [rblk A2 c3] w [.row A2 c3 137 39 (lv1).length ((lv1).flatMap Yb)] := Mem.lendN hL7
 unfold UD at hF
 refine sr fun Q8 hQ8 => ?_
 refine RL.eff (E.box (vs := (kv5.cs)) hM rfl rfl) rfl fun v w10 hv => ?_
 clear hM
 obtain ⟨g9, rfl, hM, hf⟩ := hv
 refine RL.eff (E.box (vs := [v64 t6.Xk, v64 t6.Xr]) hM rfl rfl) rfl fun v w13 hv => ?_
 clear hM
 obtain ⟨g12, rfl, hM, hf⟩ := hv
 refine va rfl rfl (nt hQ8 ?_)
 refine KC.seqH fun Q15 hQ15 => ?_
 refine sr fun Q16 hQ16 => ?_
 refine va rfl rfl (nt hQ16 (KC.block ?_))
 refine KC.loop (fun k67 a w65 => ∃ (i64 : Int), Kn 51 [(0, .slice A2 (lv1).length c3), (4, .pointer (some ⟨g9, 0, none⟩)), (5, .pointer (some ⟨g12, 0, none⟩)), (7, vI i64)] a ∧ Mem w [rblk A2 c3] w65 [.row A2 c3 137 39 (lv1).length ((lv1).flatMap Yb), .box g9 42 (kv5.cs), .box g12 100 [v64 t6.Xk, v64 t6.Xr]] ∧ JF lv1 kv5 t6 k67 i64 = some r) ?_ ?_
 ·exact fun a ha => ⟨fuel0, 0, ha.less (Xa rfl (Xa rfl (Xa rfl (Xa rfl Xj)))), hM, hF⟩
 rintro k67 a w65 ⟨i64, ha, hM, hF⟩
 refine KC.app ha ?_
 clear ha
 cases k67 with
 | zero => exact (Yl hF).elim
 | succ k67 =>
 have hF : U1 (JF lv1 kv5 t6 k67) lv1 kv5 t6 i64 = some r := hF
 unfold U1 at hF
 refine KC.seqH fun Q68 hQ68 => ?_
 refine sr fun Q69 hQ69 => ?_
 refine vm rfl rfl (vm rfl rfl (RL.val (O.len sl95 rfl) rfl (RL.val (O.lss rfl rfl) rfl (nt hQ69 ?_))))
 refine KC.cond rfl (fun hc => ?_) (fun hc => ?_)
 ·rw [if_pos hc] at hF
  refine KC.skip (KQ.thn hQ68 ?_)
  refine KC.seqH fun Q70 hQ70 => ?_
  refine KC.block ?_
  refine KC.seqH fun Q71 hQ71 => ?_
  replace hM := hM.drewN 1
  refine KC.draw [] [] [] [0, 1, 3, 6] (.ofList [0, 1, 2, 3, 4, 5, 6]) moP (by kernel_rfl) ?_
  refine RD.p rfl rfl rfl rfl (fun w' => O.move rfl) ?_
  refine RD.p rfl rfl rfl rfl (fun w' => O.move rfl) ?_
  refine Xx hF fun xv74 hx73 hF => ?_
  have hA72 := Rd.atN (f := Yb) (s := 39) (fun _ => rfl) (by decide) (hM.rd (i := 0) rfl) hx73
  refine RD.q rfl rfl rfl rfl (fun w' hf => O.idxA sl95 (hA72.fut hf) rfl rfl) ?_
  refine RD.p rfl rfl rfl rfl (fun w' => O.fldA fl137_0 (by decide) rfl) ?_
  refine RD.q rfl rfl rfl rfl (fun w' hf => O.loadN (cs := (xv74.Xo.cs)) ag42 rfl (Cs.addsN [0] (hA72.fut hf).cells rfl)) ?_
  refine RD.q rfl rfl rfl rfl (fun w' hf => O.loadN (cs := (kv5.cs)) ag42 rfl (Cs.addsN [] ((hM.bx (i := 1) rfl).fut hf) rfl)) ?_
  refine RD.p rfl rfl rfl rfl (fun w' => O.steq (cs := (xv74.Xo.cs)) (cs' := (kv5.cs)) (by kernel_rfl) rfl rfl (Q42t xv74.Xo kv5 _ rfl rfl)) ?_
  refine RD.nil (KQ.thn hQ71 ?_)
  refine KC.cond rfl (fun hc => ?_) (fun hc => ?_)
  ·rw [if_pos hc] at hF
   refine KC.seqH fun Q75 hQ75 => ?_
   replace hM := hM.drewN 1
   refine KC.draw [] [23] [23] [0, 1, 2, 3, 5, 6, 8, 10, 11, 12, 14, 15, 17, 19, 22] (.ofList [0, 1, 2, 3, 4, 5, 6, 7, 8, 9, 10, 11, 12, 13, 14, 15, 16, 17, 18, 19, 20, 21, 22, 23]) moP (by kernel_rfl) ?_
   refine RD.p rfl rfl rfl rfl (fun w' => O.move rfl) ?_
   refine RD.p rfl rfl rfl rfl (fun w' => O.move rfl) ?_
   refine RD.p rfl rfl rfl rfl (fun w' => O.move rfl) ?_
   refine RD.p rfl rfl rfl rfl (fun w' => O.move rfl) ?_
   refine Xx hF fun xv78 hx77 hF => ?_
   have hA76 := Rd.atN (f := Yb) (s := 39) (fun _ => rfl) (by decide) (hM.rd (i := 0) rfl) hx77
   refine RD.q rfl rfl rfl rfl (fun w' hf => O.idxA sl95 (hA76.fut hf) rfl rfl) ?_
   refine RD.p rfl rfl rfl rfl (fun w' => O.fldA fl137_1 (by decide) rfl) ?_
   refine RD.p rfl rfl rfl rfl (fun w' => O.fldA fl100_0 (by decide) rfl) ?_
   refine RD.q rfl rfl rfl rfl (fun w' hf => O.load sc22 rfl (Cs.adds [37, 0] (hA76.fut hf).cells rfl)) ?_
   refine RD.p rfl rfl rfl rfl (fun w' => O.fldA fl100_0 (by decide) rfl) ?_
   refine RD.q rfl rfl rfl rfl (fun w' hf => O.load sc22 rfl (Cs.adds [0] ((hM.bx (i := 2) rfl).fut hf) rfl)) ?_
   refine RD.p rfl rfl rfl rfl (fun w' => O.add rfl rfl) ?_
   refine RD.p rfl rfl rfl rfl (fun w' => O.move rfl) ?_
   refine RD.p rfl rfl rfl rfl (fun w' => O.move rfl) ?_
   refine Xx hF fun xv81 hx80 hF => ?_
   have hA79 := Rd.atN (f := Yb) (s := 39) (fun _ => rfl) (by decide) (hM.rd (i := 0) rfl) hx80
   refine RD.q rfl rfl rfl rfl (fun w' hf => O.idxA sl95 (hA79.fut hf) rfl rfl) ?_
   refine RD.p rfl rfl rfl rfl (fun w' => O.fldA fl137_1 (by decide) rfl) ?_
   refine RD.p rfl rfl rfl rfl (fun w' => O.fldA fl100_1 (by decide) rfl) ?_
   refine RD.q rfl rfl rfl rfl (fun w' hf => O.load sc22 rfl (Cs.adds [37, 1] (hA79.fut hf).cells rfl)) ?_
   refine RD.p rfl rfl rfl rfl (fun w' => O.fldA fl100_1 (by decide) rfl) ?_
   refine RD.q rfl rfl rfl rfl (fun w' hf => O.load sc22 rfl (Cs.adds [1] ((hM.bx (i := 2) rfl).fut hf) rfl)) ?_
   refine RD.p rfl rfl rfl rfl (fun w' => O.add rfl rfl) ?_
   refine RD.q rfl rfl rfl rfl (fun w' hf => O.bld (cs := [v64 (IntKind.u64.wrap (xv78.Zj.Xk + t6.Xk)), v64 (IntKind.u64.wrap (xv81.Zj.Xr + t6.Xr))]) bt100 rfl (by kernel_rfl)) ?_
   refine Xx hF fun xv84 hx83 hF => ?_
   have hA82 := Rd.atN (f := Yb) (s := 39) (fun _ => rfl) (by decide) (hM.rd (i := 0) rfl) hx83
   refine RD.q rfl rfl rfl rfl (fun w' hf => O.idxA sl95 (hA82.fut hf) rfl rfl) ?_
   refine RD.p rfl rfl rfl rfl (fun w' => O.fldA fl137_1 (by decide) rfl) ?_
   refine RD.meffs rfl rfl rfl (E.stR (enc := Yb) (j := 0) (off := 37) (vs := [v64 (IntKind.u64.wrap (xv78.Zj.Xk + t6.Xk)), v64 (IntKind.u64.wrap (xv81.Zj.Xr + t6.Xr))]) (x' := (XD.mk xv84.Xo (Yc.mk (IntKind.u64.wrap (xv78.Zj.Xk + t6.Xk)) (IntKind.u64.wrap (xv81.Zj.Xr + t6.Xr))))) hM rfl (fun _ => rfl) hx83 sz100 rfl (addsR_eq [37] rfl) rfl rfl (One.all rfl) rfl rfl) fun w85 hM1 => ?_
   clear hM
   obtain ⟨hM, hn86⟩ := hM1
   refine RD.reslot (t := 0) rfl hn86 (RD.reslot (t := 21) rfl hn86 (RD.reslot (t := 23) rfl hn86 (RD.reslot (t := 32) rfl hn86 (RD.nil (KQ.thn hQ75 ?_)))))
   replace hM := hM.pick [0] rfl (by decide)
   refine sr fun Q87 hQ87 => ?_
   refine vm rfl rfl (va rfl rfl (nt hQ87 (KC.ret (KQ.blk_r (KQ.thr hQ70 (KQ.then_r ?_))))))
   refine KQ.blk_r (KQ.thr hQ15 ?_)
   have hE := Option.some.inj hF
   clear hF
   subst hE
   refine KQ.rets Tryz.results38 (RVs.cons (RV.tm rfl) RVs.nil) ?_
   exact ⟨_, rfl, A2, c3, rfl, hM⟩
  rw [if_neg (Xv hc)] at hF
  refine KC.skip (KQ.blk_n (KQ.thn hQ70 (KC.region (vm rfl rfl (RL.val (O.add rfl rfl) rfl (va rfl rfl ?_))))))
  refine RL.nil (KQ.Xy ?_)
  exact fun a ha => ⟨k67, Nat.lt_succ_self k67, (IntKind.i64.wrap (i64 + 1)), ha.less (Xa rfl (Xa rfl (Xa rfl (Xa rfl Xj)))), hM, hF⟩
 rw [if_neg (Xv hc)] at hF
 refine KC.exit (KQ.thx hQ68 (KQ.then_x (KQ.blk_x (KQ.thn hQ15 ?_))))
 refine sr fun Q88 hQ88 => ?_
 refine vm rfl rfl (RL.val (O.loadN (cs := (kv5.cs)) ag42 rfl (Cs.addsN [] ((hM.bx (i := 1) rfl)) rfl)) rfl (RL.val (O.loadN (cs := [v64 t6.Xk, v64 t6.Xr]) ag100 rfl (Cs.addsN [] ((hM.bx (i := 2) rfl)) rfl)) rfl (RL.val (O.bld (cs := (kv5.cs ++ [v64 t6.Xk, v64 t6.Xr])) bt137 rfl (by kernel_rfl)) rfl ?_)))
 refine RL.eff (E.bsl (enc := Yb) (xs := ([(XD.mk kv5 t6)] : List XD)) hM sl95 ze137 rfl rfl rfl (fun _ => rfl) rfl (by kernel_rfl) rfl) rfl fun v w89 hv => ?_
 clear hM
 obtain ⟨A90, rfl, hM, hf⟩ := hv
 refine XZ hF fun hq95 hF => ?_
 refine RL.eff (E.app (enc := Yb) (xs := lv1) (ys := ([(XD.mk kv5 t6)] : List XD)) (j := 0) hM rfl sl95 ze137 rfl rfl rfl rfl rfl (hM.rd (i := 3) rfl) (fun _ => One.all rfl) (of_decide_eq_true hq95)) rfl fun v w94 hv => ?_
 clear hM
 obtain ⟨A92, c93, rfl, hM, hf⟩ := hv
 refine va rfl rfl (nt hQ88 (KC.ret ?_))
 have hE := Option.some.inj hF
 clear hF
 subst hE
 replace hM := hM.pick [0] rfl (by decide)
 refine KQ.rets Tryz.results38 (RVs.cons (RV.tm rfl) RVs.nil) ?_
 exact ⟨_, rfl, A92, c93, rfl, hM⟩
theorem Xau (w : World) (rv1 : Xc) (r : Bool) (hF : Km rv1 = some r) :
  CallsR Tryz.prog 73 [.agg (rv1.cs).toArray] w (fun v w' => v = vB r ∧ Mem w [] w' []) := by
 refine XJ Tryz.func73 rfl Tryz.ntmps73 rfl ?_
 have hM := Mem.init w
 unfold Km at hF
 refine sr fun Q2 hQ2 => ?_
 refine RL.eff (E.box (vs := (rv1.cs)) hM rfl rfl) rfl fun v w4 hv => ?_
 clear hM
 obtain ⟨g3, rfl, hM, hf⟩ := hv
 refine va rfl rfl (nt hQ2 ?_)
 refine KC.cut (fun a w11 => ∃ (t10 : Bool), Kn 28 [(2, vB t10)] a ∧ Mem w [] w11 [] ∧ YP t10 = some r) ?_ ?_
 ·refine KC.region (RL.val (O.fldA fl62_0 (by decide) rfl) rfl ?_)
  refine RL.val (O.loadN (cs := (rv1.Xo.cs)) ag42 rfl (Cs.addsN [0] ((hM.bx (i := 0) rfl)) rfl)) rfl ?_
  refine Xx hF fun y6 hx7 hF => ?_
  refine RL.call Tryz.func37 bd37 rfl rfl (KK _ rv1.Xo _ hx7) fun v w8 hv => ?_
  obtain ⟨rfl, hN9⟩ := hv
  replace hM := hM.call0 hN9
  refine vm rfl rfl ?_
  refine RL.bcase (t := 6) rfl (fun hc => ?_) (fun hc => ?_)
  ·rw [if_pos hc] at hF
   refine RL.gval rfl rfl (O.fldA fl62_1 (by decide) rfl) rfl ?_
   refine RL.gval rfl rfl (O.load sc22 rfl (Cs.adds [37] ((hM.bx (i := 0) rfl)) rfl)) rfl (RL.gval rfl rfl (O.gtr rfl rfl) rfl (RL.val (O.pickt rfl rfl) rfl (vm rfl rfl ?_)))
   refine RL.bcase (t := 11) rfl (fun hc => ?_) (fun hc => ?_)
   ·rw [if_pos hc] at hF
    refine RL.gval rfl rfl (O.fldA fl62_3 (by decide) rfl) rfl ?_
    refine RL.gval rfl rfl (O.load sc22 rfl (Cs.adds [39] ((hM.bx (i := 0) rfl)) rfl)) rfl (RL.gval rfl rfl (O.fldA fl62_4 (by decide) rfl) rfl ?_)
    refine RL.gval rfl rfl (O.load sc22 rfl (Cs.adds [40] ((hM.bx (i := 0) rfl)) rfl)) rfl (RL.gval rfl rfl (O.leq rfl rfl) rfl (RL.val (O.pickt rfl rfl) rfl (vm rfl rfl ?_)))
    refine RL.bcase (t := 18) rfl (fun hc => ?_) (fun hc => ?_)
    ·rw [if_pos hc] at hF
     refine RL.gval rfl rfl (O.fldA fl62_6 (by decide) rfl) rfl ?_
     refine RL.gval rfl rfl (O.load sc5 rfl (Cs.adds [42] ((hM.bx (i := 0) rfl)) rfl)) rfl (RL.gval rfl rfl (O.geq rfl rfl) rfl (RL.val (O.pickt rfl rfl) rfl (vm rfl rfl ?_)))
     refine RL.bcase (t := 23) rfl (fun hc => ?_) (fun hc => ?_)
     ·rw [if_pos hc] at hF
      refine RL.gval rfl rfl (O.fldA fl62_6 (by decide) rfl) rfl ?_
      refine RL.gval rfl rfl (O.load sc5 rfl (Cs.adds [42] ((hM.bx (i := 0) rfl)) rfl)) rfl (RL.gval rfl rfl (O.leq rfl rfl) rfl (RL.val (O.pickt rfl rfl) rfl (va rfl rfl (RL.nil (KQ.Xy ?_)))))
      replace hM := hM.pick [] rfl (by decide)
      exact fun a ha => ⟨(decide (rv1.X9 ≤ 5)), ha.less (Xa rfl Xj), hM, hF⟩
     rw [if_neg (Xv hc)] at hF
     refine RL.brun1 4 27 false (by kernel_rfl) ?_
     refine va rfl rfl (RL.nil (KQ.Xy ?_))
     replace hM := hM.pick [] rfl (by decide)
     exact fun a ha => ⟨false, ha.less (Xa rfl Xj), hM, hF⟩
    rw [if_neg (Xv hc)] at hF
    refine RL.brun1 9 27 false (by kernel_rfl) ?_
    refine va rfl rfl (RL.nil (KQ.Xy ?_))
    replace hM := hM.pick [] rfl (by decide)
    exact fun a ha => ⟨false, ha.less (Xa rfl Xj), hM, hF⟩
   rw [if_neg (Xv hc)] at hF
   refine RL.brun1 16 27 false (by kernel_rfl) ?_
   refine va rfl rfl (RL.nil (KQ.Xy ?_))
   replace hM := hM.pick [] rfl (by decide)
   exact fun a ha => ⟨false, ha.less (Xa rfl Xj), hM, hF⟩
  rw [if_neg (Xv hc)] at hF
  refine RL.brun1 21 27 false (by kernel_rfl) ?_
  refine va rfl rfl (RL.nil (KQ.Xy ?_))
  replace hM := hM.pick [] rfl (by decide)
  exact fun a ha => ⟨false, ha.less (Xa rfl Xj), hM, hF⟩
 rintro a w11 ⟨t10, ha, hM, hF⟩
 refine KC.app ha ?_
 clear ha
 unfold YP at hF
 refine KC.ret ?_
 have hE := Option.some.inj hF
 clear hF
 subst hE
 refine KQ.rets Tryz.results73 (RVs.cons (RV.tm rfl) RVs.nil) ?_
 exact ⟨_, rfl, rfl, hM⟩
theorem Xba (w : World) (A7 : Option Addr) (c8 : Nat) (sums6 : List XD) (hL10 : Lent w [.row A7 c8 137 39 (sums6).length ((sums6).flatMap Yb)]) (A2 : Option Addr) (c3 : Nat) (lv1 : List Xc) (hr4 : Rd w A2 c3 44 lv1.length (lv1.flatMap Xn)) (ho5 : Off [rblk A7 c8] lv1.length A2) (r : (List XD) × Bool) (hF : VA lv1 sums6 = some r) :
  CallsR Tryz.prog 39 [.slice A2 (lv1).length c3, .slice A7 (sums6).length c8] w (fun v w' => ∃ (A0 : Option Addr) (c0 : Nat), v = .tuple #[.slice A0 (r.1).length c0, vB r.2] ∧ Mem w [rblk A7 c8] w' [.row A0 c0 137 39 r.1.length (r.1.flatMap Yb)]) := by
 refine XJ Tryz.func39 rfl Tryz.ntmps39 rfl ?_
 have hM : Mem w [rblk A7 c8] w [.row A7 c8 137 39 (sums6).length ((sums6).flatMap Yb)] := Mem.lendN hL10
 unfold VA at hF
 refine sr fun Q11 hQ11 => ?_
 refine va rfl rfl (va rfl rfl (nt hQ11 ?_))
 refine KC.seqH fun Q12 hQ12 => ?_
 refine sr fun Q13 hQ13 => ?_
 refine va rfl rfl (nt hQ13 (KC.block ?_))
 refine KC.loop (fun k86 a w84 => ∃ (A80 : Option Addr) (c81 : Nat) (sums82 : List XD) (i83 : Int), Kn 33 [(0, .slice A2 (lv1).length c3), (1, .slice A80 (sums82).length c81), (6, vI i83)] a ∧ Mem w [rblk A7 c8] w84 [.row A80 c81 137 39 (sums82).length ((sums82).flatMap Yb)] ∧ J5 lv1 k86 sums82 i83 = some r) ?_ ?_
 ·exact fun a ha => ⟨fuel0, A7, c8, sums6, 0, ha.less (Xa rfl (Xa rfl (Xa rfl Xj))), hM, hF⟩
 rintro k86 a w84 ⟨A80, c81, sums82, i83, ha, hM, hF⟩
 refine KC.app ha ?_
 clear ha
 cases k86 with
 | zero => exact (Yl hF).elim
 | succ k86 =>
 have hF : J7 (J5 lv1 k86) lv1 sums82 i83 = some r := hF
 unfold J7 at hF
 refine KC.seqH fun Q87 hQ87 => ?_
 refine sr fun Q88 hQ88 => ?_
 refine vm rfl rfl (vm rfl rfl (RL.val (O.len sl55 rfl) rfl (RL.val (O.lss rfl rfl) rfl (nt hQ88 ?_))))
 refine KC.cond rfl (fun hc => ?_) (fun hc => ?_)
 ·rw [if_pos hc] at hF
  refine KC.skip (KQ.thn hQ87 ?_)
  refine KC.seqH fun Q89 hQ89 => ?_
  refine KC.block ?_
  refine KC.seqH fun Q90 hQ90 => ?_
  refine sr fun Q91 hQ91 => ?_
  refine vm rfl rfl (vm rfl rfl ?_)
  refine Xx hF fun xv94 hx93 hF => ?_
  have hA92 := Rd.atN (f := Xn) (s := 44) (fun _ => rfl) (by decide) (hM.inp hr4 ho5) hx93
  refine RL.val (O.idxA sl55 (hA92) rfl rfl) rfl (RL.val (O.loadN (cs := (xv94.cs)) ag62 rfl (hA92).cells) rfl ?_)
  refine Xx hF fun y95 hx96 hF => ?_
  refine RL.call Tryz.func73 bd73 rfl rfl (Xau _ xv94 _ hx96) fun v w97 hv => ?_
  obtain ⟨rfl, hN98⟩ := hv
  replace hM := hM.call0 hN98
  refine RL.val (O.not rfl) rfl (nt hQ91 ?_)
  refine KC.cond rfl (fun hc => ?_) (fun hc => ?_)
  ·rw [if_pos hc] at hF
   refine sr fun Q99 hQ99 => ?_
   refine vm rfl rfl (va rfl rfl (va rfl rfl (nt hQ99 (KC.ret (KQ.thr hQ90 (KQ.blk_r ?_))))))
   refine KQ.thr hQ89 (KQ.then_r (KQ.blk_r (KQ.thr hQ12 ?_)))
   have hE := Option.some.inj hF
   clear hF
   subst hE
   refine KQ.rets Tryz.results39 (RVs.cons (RV.tm rfl) (RVs.cons (RV.tm rfl) RVs.nil)) ?_
   exact ⟨_, rfl, A80, c81, rfl, hM⟩
  rw [if_neg (Xv hc)] at hF
  refine KC.skip (KQ.thn hQ90 ?_)
  replace hM := hM.drewN 1
  refine KC.draw [] [11] [10, 11] [0, 1, 2, 4, 6, 7, 12] (.ofList [0, 1, 2, 3, 4, 5, 6, 7, 8, 9, 10, 11, 12]) moP (by kernel_rfl) ?_
  refine RD.p rfl rfl rfl rfl (fun w' => O.move rfl) ?_
  refine RD.p rfl rfl rfl rfl (fun w' => O.move rfl) ?_
  refine RD.p rfl rfl rfl rfl (fun w' => O.move rfl) ?_
  refine Xx hF fun xv102 hx101 hF => ?_
  have hA100 := Rd.atN (f := Xn) (s := 44) (fun _ => rfl) (by decide) (hM.inp hr4 ho5) hx101
  refine RD.q rfl rfl rfl rfl (fun w' hf => O.idxA sl55 (hA100.fut hf) rfl rfl) ?_
  refine RD.p rfl rfl rfl rfl (fun w' => O.fldA fl62_0 (by decide) rfl) ?_
  refine RD.q rfl rfl rfl rfl (fun w' hf => O.loadN (cs := (xv102.Xo.cs)) ag42 rfl (Cs.addsN [0] (hA100.fut hf).cells rfl)) ?_
  refine RD.p rfl rfl rfl rfl (fun w' => O.move rfl) ?_
  refine RD.p rfl rfl rfl rfl (fun w' => O.move rfl) ?_
  refine Xx hF fun xv105 hx104 hF => ?_
  have hA103 := Rd.atN (f := Xn) (s := 44) (fun _ => rfl) (by decide) (hM.inp hr4 ho5) hx104
  refine RD.q rfl rfl rfl rfl (fun w' hf => O.idxA sl55 (hA103.fut hf) rfl rfl) ?_
  refine RD.q rfl rfl rfl rfl (fun w' hf => O.loadN (cs := (xv105.cs)) ag62 rfl (hA103.fut hf).cells) ?_
  refine Xx hF fun y106 hx107 hF => ?_
  refine RD.mcall rfl rfl trivial Tryz.func40 bd40 rfl rfl (K3 _ xv105 _ hx107) fun v w108 hv => ?_
  obtain ⟨rfl, hN109⟩ := hv
  refine ⟨fun _ => hN109.fut, ?_⟩
  replace hM := hM.call0 hN109
  refine Xx hF fun y110 hx111 hF => ?_
  refine RD.mcall rfl rfl trivial Tryz.func38 bd38 rfl rfl (Xay _ _ _ sums82 (hM.lent [0] rfl (by decide)) xv102.Xo y106 _ hx111) fun v w112 hv => ?_
  obtain ⟨A114, c115, rfl, hN113⟩ := hv
  refine ⟨fun h => (by cases h), ?_⟩
  replace hM := hM.callL [0] [] rfl rfl (by decide) rfl hN113
  refine RD.p rfl rfl rfl rfl (fun w' => O.assign rfl) (RD.nil (KQ.blk_n (KQ.thn hQ89 (KC.region (vm rfl rfl (RL.val (O.add rfl rfl) rfl ?_))))))
  refine va rfl rfl (RL.nil (KQ.Xy ?_))
  exact fun a ha => ⟨k86, Nat.lt_succ_self k86, A114, c115, y110, (IntKind.i64.wrap (i83 + 1)), ha.less (Xa rfl (Xa rfl (Xa rfl Xj))), hM, hF⟩
 rw [if_neg (Xv hc)] at hF
 refine KC.exit (KQ.thx hQ87 (KQ.then_x (KQ.blk_x (KQ.thn hQ12 ?_))))
 refine sr fun Q117 hQ117 => ?_
 refine vm rfl rfl (va rfl rfl (va rfl rfl (nt hQ117 (KC.ret ?_))))
 have hE := Option.some.inj hF
 clear hF
 subst hE
 refine KQ.rets Tryz.results39 (RVs.cons (RV.tm rfl) (RVs.cons (RV.tm rfl) RVs.nil)) ?_
 exact ⟨_, rfl, A80, c81, rfl, hM⟩
theorem XaT (w : World) (A2 : Option Addr) (c3 : Nat) (av1 : List XD) (hr4 : Rd w A2 c3 39 av1.length (av1.flatMap Yb)) (A6 : Option Addr) (c7 : Nat) (b5 : List XD) (hr8 : Rd w A6 c7 39 b5.length (b5.flatMap Yb)) (r : Bool) (hF : UL av1 b5 = some r) :
  CallsR Tryz.prog 41 [.slice A2 (av1).length c3, .slice A6 (b5).length c7] w (fun v w' => v = vB r ∧ Mem w [] w' []) := by
 refine XJ Tryz.func41 rfl Tryz.ntmps41 rfl ?_
 have hM := Mem.init w
 unfold UL at hF
 refine sr fun Q9 hQ9 => ?_
 refine va rfl rfl (nt hQ9 ?_)
 refine KC.seqH fun Q10 hQ10 => ?_
 refine sr fun Q11 hQ11 => ?_
 refine va rfl rfl (nt hQ11 (KC.block ?_))
 refine KC.loop (fun k112 a w110 => ∃ (i109 : Int), Kn 41 [(0, .slice A2 (av1).length c3), (1, .slice A6 (b5).length c7), (5, vI i109)] a ∧ Mem w [] w110 [] ∧ Zt av1 b5 k112 i109 = some r) ?_ ?_
 ·exact fun a ha => ⟨fuel0, 0, ha.less (Xa rfl (Xa rfl (Xa rfl Xj))), hM, hF⟩
 rintro k112 a w110 ⟨i109, ha, hM, hF⟩
 refine KC.app ha ?_
 clear ha
 cases k112 with
 | zero => exact (Yl hF).elim
 | succ k112 =>
 have hF : UG (Zt av1 b5 k112) av1 b5 i109 = some r := hF
 unfold UG at hF
 refine KC.seqH fun Q113 hQ113 => ?_
 refine sr fun Q114 hQ114 => ?_
 refine vm rfl rfl (vm rfl rfl (RL.val (O.len sl95 rfl) rfl (RL.val (O.lss rfl rfl) rfl (nt hQ114 ?_))))
 refine KC.cond rfl (fun hc => ?_) (fun hc => ?_)
 ·rw [if_pos hc] at hF
  refine KC.skip (KQ.thn hQ113 ?_)
  refine KC.seqH fun Q115 hQ115 => ?_
  refine KC.block ?_
  refine sr fun Q116 hQ116 => ?_
  refine vm rfl rfl (vm rfl rfl ?_)
  refine Xx hF fun xv119 hx118 hF => ?_
  have hA117 := Rd.atN (f := Yb) (s := 39) (fun _ => rfl) (by decide) (hM.inp hr4 Off.nil) hx118
  refine RL.val (O.idxA sl95 (hA117) rfl rfl) rfl (RL.val (O.fldA fl137_1 (by decide) rfl) rfl ?_)
  refine RL.val (O.loadN (cs := [v64 xv119.Zj.Xk, v64 xv119.Zj.Xr]) ag100 rfl (Cs.addsN [37] (hA117).cells rfl)) rfl (RL.val (O.bld (cs := [v64 0, v64 0]) bt100 rfl (by kernel_rfl)) rfl ?_)
  refine RL.val (O.steq (cs := [v64 xv119.Zj.Xk, v64 xv119.Zj.Xr]) (cs' := [v64 0, v64 0]) (by kernel_rfl) rfl rfl (Q100t xv119.Zj (Yc.mk 0 0) _ rfl rfl)) rfl ?_
  refine va rfl rfl (nt hQ116 ?_)
  refine KC.seqH fun Q120 hQ120 => ?_
  refine sr fun Q121 hQ121 => ?_
  refine va rfl rfl (nt hQ121 (KC.block ?_))
  refine KC.loop (fun k148 a w146 => ∃ (found144 : Bool) (kv145 : Int), Kn 41 [(0, .slice A2 (av1).length c3), (1, .slice A6 (b5).length c7), (5, vI i109), (6, vB found144), (7, vI kv145)] a ∧ Mem w [] w146 [] ∧ Ko av1 b5 i109 (Zt av1 b5 k112) k148 found144 kv145 = some r) ?_ ?_
  ·exact fun a ha => ⟨fuel0, (U8 xv119.Zj (Yc.mk 0 0)), 0, ha.less (Xa rfl (Xa rfl (Xa rfl (Xa rfl (Xa rfl Xj))))), hM, hF⟩
  rintro k148 a w146 ⟨found144, kv145, ha, hM, hF⟩
  refine KC.app ha ?_
  clear ha
  cases k148 with
  | zero => exact (Yl hF).elim
  | succ k148 =>
  have hF : UK (Ko av1 b5 i109 (Zt av1 b5 k112) k148) av1 b5 i109 (Zt av1 b5 k112) found144 kv145 = some r := hF
  unfold UK at hF
  refine KC.seqH fun Q149 hQ149 => ?_
  refine sr fun Q150 hQ150 => ?_
  refine vm rfl rfl (vm rfl rfl (RL.val (O.len sl95 rfl) rfl (RL.val (O.lss rfl rfl) rfl (nt hQ150 ?_))))
  refine KC.cond rfl (fun hc => ?_) (fun hc => ?_)
  ·rw [if_pos hc] at hF
   refine KC.skip (KQ.thn hQ149 ?_)
   refine KC.cut (fun a w158 => ∃ (found157 : Bool), Kn 41 [(0, .slice A2 (av1).length c3), (1, .slice A6 (b5).length c7), (5, vI i109), (6, vB found157), (7, vI kv145)] a ∧ Mem w [] w158 [] ∧ Uy kv145 (Ko av1 b5 i109 (Zt av1 b5 k112) k148) found157 = some r) ?_ ?_
   ·refine KC.block ?_
    replace hM := hM.drewN 1
    refine KC.draw [] [] [] [0, 1, 2, 3, 6, 7, 10, 11, 12] (.ofList [0, 1, 2, 3, 4, 5, 6, 7, 8, 9, 10, 11, 12]) moP (by kernel_rfl) ?_
    refine RD.p rfl rfl rfl rfl (fun w' => O.move rfl) ?_
    refine RD.p rfl rfl rfl rfl (fun w' => O.move rfl) ?_
    refine RD.bcase (t := 28) rfl (fun hc => ?_) (fun hc => ?_)
    ·rw [if_pos hc] at hF
     refine RD.gskip rfl rfl rfl rfl rfl (RD.gskip rfl rfl rfl rfl rfl (RD.gskip rfl rfl rfl rfl rfl (RD.gskip rfl rfl rfl rfl rfl (RD.gskip rfl rfl rfl rfl rfl (RD.gskip rfl rfl rfl rfl rfl (RD.gskip rfl rfl rfl rfl rfl ?_))))))
     refine RD.gskip rfl rfl rfl rfl rfl (RD.gskip rfl rfl rfl rfl rfl ?_)
     refine RD.p rfl rfl rfl rfl (fun w' => O.pickt rfl rfl) ?_
     refine RD.p rfl rfl rfl rfl (fun w' => O.assign rfl) (RD.nil (KQ.blk_n (KQ.Xy ?_)))
     exact fun a ha => ⟨true, ha.less (Xa rfl (Xa rfl (Xa rfl (Xa rfl (Xa rfl Xj))))), hM, hF⟩
    rw [if_neg (Xv hc)] at hF
    refine RD.gp rfl rfl rfl rfl rfl rfl (fun w' => O.move rfl) ?_
    refine RD.gp rfl rfl rfl rfl rfl rfl (fun w' => O.move rfl) ?_
    refine Xx hF fun xv153 hx152 hF => ?_
    have hA151 := Rd.atN (f := Yb) (s := 39) (fun _ => rfl) (by decide) (hM.inp hr8 Off.nil) hx152
    refine RD.gq rfl rfl rfl rfl rfl rfl (fun w' hf => O.idxA sl95 (hA151.fut hf) rfl rfl) ?_
    refine RD.gq rfl rfl rfl rfl rfl rfl (fun w' hf => O.loadN (cs := (xv153.cs)) ag137 rfl (hA151.fut hf).cells) ?_
    refine RD.gp rfl rfl rfl rfl rfl rfl (fun w' => O.move rfl) ?_
    refine RD.gp rfl rfl rfl rfl rfl rfl (fun w' => O.move rfl) ?_
    refine Xx hF fun xv156 hx155 hF => ?_
    have hA154 := Rd.atN (f := Yb) (s := 39) (fun _ => rfl) (by decide) (hM.inp hr4 Off.nil) hx155
    refine RD.gq rfl rfl rfl rfl rfl rfl (fun w' hf => O.idxA sl95 (hA154.fut hf) rfl rfl) ?_
    refine RD.gq rfl rfl rfl rfl rfl rfl (fun w' hf => O.loadN (cs := (xv156.cs)) ag137 rfl (hA154.fut hf).cells) ?_
    refine RD.gp rfl rfl rfl rfl rfl rfl (fun w' => O.steq (cs := (xv153.cs)) (cs' := (xv156.cs)) (by kernel_rfl) rfl rfl (Q137t xv153 xv156 _ rfl rfl)) ?_
    refine RD.p rfl rfl rfl rfl (fun w' => O.pickf rfl rfl) ?_
    refine RD.p rfl rfl rfl rfl (fun w' => O.assign rfl) (RD.nil (KQ.blk_n (KQ.Xy ?_)))
    exact fun a ha => ⟨(UJ xv153 xv156), ha.less (Xa rfl (Xa rfl (Xa rfl (Xa rfl (Xa rfl Xj))))), hM, hF⟩
   rintro a w158 ⟨found157, ha, hM, hF⟩
   refine KC.app ha ?_
   clear ha
   unfold Uy at hF
   refine KC.region (vm rfl rfl (RL.val (O.add rfl rfl) rfl (va rfl rfl (RL.nil (KQ.Xy ?_)))))
   exact fun a ha => ⟨k148, Nat.lt_succ_self k148, found157, (IntKind.i64.wrap (kv145 + 1)), ha.less (Xa rfl (Xa rfl (Xa rfl (Xa rfl (Xa rfl Xj))))), hM, hF⟩
  rw [if_neg (Xv hc)] at hF
  refine KC.exit (KQ.thx hQ149 (KQ.then_x (KQ.blk_x (KQ.thn hQ120 ?_))))
  refine sr fun Q159 hQ159 => ?_
  refine vm rfl rfl (RL.val (O.not rfl) rfl (nt hQ159 ?_))
  refine KC.cond rfl (fun hc => ?_) (fun hc => ?_)
  ·rw [if_pos hc] at hF
   refine sr fun Q160 hQ160 => ?_
   refine va rfl rfl (nt hQ160 (KC.ret (KQ.blk_r (KQ.thr hQ115 (KQ.then_r (KQ.blk_r ?_))))))
   refine KQ.thr hQ10 ?_
   have hE := Option.some.inj hF
   clear hF
   subst hE
   refine KQ.rets Tryz.results41 (RVs.cons (RV.tm rfl) RVs.nil) ?_
   exact ⟨_, rfl, rfl, hM⟩
  rw [if_neg (Xv hc)] at hF
  refine KC.skip (KQ.blk_n (KQ.thn hQ115 (KC.region (vm rfl rfl (RL.val (O.add rfl rfl) rfl (va rfl rfl ?_))))))
  refine RL.nil (KQ.Xy ?_)
  exact fun a ha => ⟨k112, Nat.lt_succ_self k112, (IntKind.i64.wrap (i109 + 1)), ha.less (Xa rfl (Xa rfl (Xa rfl Xj))), hM, hF⟩
 rw [if_neg (Xv hc)] at hF
 refine KC.exit (KQ.thx hQ113 (KQ.then_x (KQ.blk_x (KQ.thn hQ10 ?_))))
 refine sr fun Q161 hQ161 => ?_
 refine va rfl rfl (nt hQ161 (KC.ret ?_))
 have hE := Option.some.inj hF
 clear hF
 subst hE
 refine KQ.rets Tryz.results41 (RVs.cons (RV.tm rfl) RVs.nil) ?_
 exact ⟨_, rfl, rfl, hM⟩
end Go.Proofs.YtkpnocgfhipidaaGreat
