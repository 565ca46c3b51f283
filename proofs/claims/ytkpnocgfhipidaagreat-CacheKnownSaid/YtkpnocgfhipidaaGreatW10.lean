/- Printed by a program of this claim: each call returns what the plain function of its name gives. -/
import Derived.Test.YtkpnocgfhipidaaGreatW1
import Derived.Test.YtkpnocgfhipidaaGreatW9
set_option linter.unusedVariables false
set_option maxRecDepth 100000
set_option maxHeartbeats 40000000
namespace Go.Proofs.YtkpnocgfhipidaaGreat
open Go Go.Ox Go.RowKit
theorem VJ (w : World) (g2 : Nat) (tg7 : TypeId) (cv1 : Xq) (A4 : Option Addr) (c5 : Nat) (hL8 : Lent w [.box g2 tg7 (v64 cv1.XK :: (cv1.Xu.cs ++ [.slice A4 (cv1.f_L).length c5])), .row A4 c5 89 44 (cv1.f_L).length ((cv1.f_L).flatMap Xs)]) (r : Int × Bool × Xq) (hF : J3 cv1 = some r) :
  CallsR Tryz.prog 28 [.pointer (some ⟨g2, 0, none⟩)] w (fun v w' => ∃ (A0 : Option Addr) (c0 : Nat), v = .tuple #[v64 r.1, vB r.2.1] ∧ Mem w [some g2, rblk A4 c5] w' [.box g2 tg7 (v64 r.2.2.XK :: (r.2.2.Xu.cs ++ [.slice A0 (r.2.2.f_L).length c0])), .row A0 c0 89 44 r.2.2.f_L.length (r.2.2.f_L.flatMap Xs)]) := by
 refine XJ Tryz.func28 rfl Tryz.ntmps28 rfl ?_
 have hM : Mem w [some g2, rblk A4 c5] w [.box g2 tg7 (v64 cv1.XK :: (cv1.Xu.cs ++ [.slice A4 (cv1.f_L).length c5])), .row A4 c5 89 44 (cv1.f_L).length ((cv1.f_L).flatMap Xs)] := Mem.lendN hL8
 unfold J3 at hF
 refine sr fun Q9 hQ9 => ?_
 refine va rfl rfl (va rfl rfl (nt hQ9 ?_))
 refine sr fun Q10 hQ10 => ?_
 refine va rfl rfl (va rfl rfl (nt hQ10 ?_))
 refine KC.seqH fun Q11 hQ11 => ?_
 refine sr fun Q12 hQ12 => ?_
 refine va rfl rfl (nt hQ12 (KC.block ?_))
 refine KC.loop (fun k68 a w66 => ∃ (best63 : Int) (ok64 : Bool) (i65 : Int), Kn 42 [(0, .pointer (some ⟨g2, 0, none⟩)), (4, v64 best63), (5, vB ok64), (6, vI i65)] a ∧ Mem w [some g2, rblk A4 c5] w66 [.row A4 c5 89 44 (cv1.f_L).length ((cv1.f_L).flatMap Xs), .box g2 tg7 (v64 cv1.XK :: (cv1.Xu.cs ++ [.slice A4 (cv1.f_L).length c5]))] ∧ Y7 cv1 k68 best63 ok64 i65 = some r) ?_ ?_
 ·replace hM := hM.pick [1, 0] rfl (by decide)
  exact fun a ha => ⟨fuel0, 0, false, 0, ha.less (Xa rfl (Xa rfl (Xa rfl (Xa rfl Xj)))), hM, hF⟩
 rintro k68 a w66 ⟨best63, ok64, i65, ha, hM, hF⟩
 refine KC.app ha ?_
 clear ha
 cases k68 with
 | zero => exact (Yl hF).elim
 | succ k68 =>
 have hF : JR (Y7 cv1 k68) cv1 best63 ok64 i65 = some r := hF
 unfold JR at hF
 refine KC.seqH fun Q69 hQ69 => ?_
 refine sr fun Q70 hQ70 => ?_
 refine vm rfl rfl (vm rfl rfl (RL.val (O.nilp rfl) rfl (RL.val (O.fldA fl72_2 (by decide) rfl) rfl ?_)))
 refine RL.val (O.load sc70 rfl (Cs.adds [6] ((hM.bx (i := 1) rfl)) rfl)) rfl (RL.val (O.len sl70 rfl) rfl (RL.val (O.lss rfl rfl) rfl (nt hQ70 ?_)))
 refine KC.cond rfl (fun hc => ?_) (fun hc => ?_)
 ·rw [if_pos hc] at hF
  refine KC.skip (KQ.thn hQ69 ?_)
  refine KC.cut (fun a w94 => ∃ (best92 : Int) (ok93 : Bool), Kn 42 [(0, .pointer (some ⟨g2, 0, none⟩)), (4, v64 best92), (5, vB ok93), (6, vI i65)] a ∧ Mem w [some g2, rblk A4 c5] w94 [.row A4 c5 89 44 (cv1.f_L).length ((cv1.f_L).flatMap Xs), .box g2 tg7 (v64 cv1.XK :: (cv1.Xu.cs ++ [.slice A4 (cv1.f_L).length c5]))] ∧ JU i65 (Y7 cv1 k68) best92 ok93 = some r) ?_ ?_
  ·refine KC.block ?_
   refine KC.cut (fun a w81 => ∃ (t80 : Bool), Kn 42 [(0, .pointer (some ⟨g2, 0, none⟩)), (4, v64 best63), (5, vB ok64), (6, vI i65), (30, vB t80)] a ∧ Mem w [some g2, rblk A4 c5] w81 [.row A4 c5 89 44 (cv1.f_L).length ((cv1.f_L).flatMap Xs), .box g2 tg7 (v64 cv1.XK :: (cv1.Xu.cs ++ [.slice A4 (cv1.f_L).length c5]))] ∧ JS cv1 best63 ok64 i65 (Y7 cv1 k68) t80 = some r) ?_ ?_
   ·refine KC.region (vm rfl rfl (RL.val (O.not rfl) rfl (vm rfl rfl ?_)))
    refine RL.bcase (t := 18) rfl (fun hc => ?_) (fun hc => ?_)
    ·rw [if_pos hc] at hF
     refine RL.gskip rfl rfl rfl rfl (RL.gskip rfl rfl rfl rfl (RL.gskip rfl rfl rfl rfl (RL.gskip rfl rfl rfl rfl (RL.gskip rfl rfl rfl rfl (RL.gskip rfl rfl rfl rfl (RL.gskip rfl rfl rfl rfl ?_))))))
     refine RL.gskip rfl rfl rfl rfl (RL.gskip rfl rfl rfl rfl (RL.gskip rfl rfl rfl rfl (RL.gskip rfl rfl rfl rfl (RL.val (O.pickt rfl rfl) rfl (RL.nil (KQ.Xy ?_))))))
     exact fun a ha => ⟨true, ha.less (Xa rfl (Xa rfl (Xa rfl (Xa rfl (Xa rfl Xj))))), hM, hF⟩
    rw [if_neg (Xv hc)] at hF
    refine RL.gval rfl rfl (O.move rfl) rfl (RL.gval rfl rfl (O.move rfl) rfl (RL.gval rfl rfl (O.nilp rfl) rfl (RL.gval rfl rfl (O.fldA fl72_2 (by decide) rfl) rfl ?_)))
    refine RL.gval rfl rfl (O.load sc70 rfl (Cs.adds [6] ((hM.bx (i := 1) rfl)) rfl)) rfl (RL.gval rfl rfl (O.move rfl) rfl ?_)
    refine Xx hF fun xv73 hx72 hF => ?_
    have hA71 := Rd.atN (f := Xs) (s := 44) (fun _ => rfl) (by decide) (hM.rd (i := 0) rfl) hx72
    refine RL.gval rfl rfl (O.idxA sl70 (hA71) rfl rfl) rfl (RL.gval rfl rfl (O.loadN (cs := (xv73.cs)) ag89 rfl (hA71).cells) rfl ?_)
    refine Xx hF fun y74 hx75 hF => ?_
    refine RL.gcall rfl rfl Tryz.func63 bd63 rfl rfl (Vi _ _ _ cv1 _ (hM.lent [1] rfl (by decide)) xv73 _ hx75) fun v w76 hv => ?_
    obtain ⟨rfl, hN77⟩ := hv
    replace hM := hM.call0 hN77
    refine RL.gval rfl rfl (O.move rfl) rfl (RL.gval rfl rfl (O.lss rfl rfl) rfl (RL.val (O.pickf rfl rfl) rfl (RL.nil (KQ.Xy ?_))))
    exact fun a ha => ⟨(decide (y74 < best63)), ha.less (Xa rfl (Xa rfl (Xa rfl (Xa rfl (Xa rfl Xj))))), hM, hF⟩
   rintro a w81 ⟨t80, ha, hM, hF⟩
   refine KC.app ha ?_
   clear ha
   unfold JS at hF
   refine KC.cond rfl (fun hc => ?_) (fun hc => ?_)
   ·rw [if_pos hc] at hF
    refine sr fun Q82 hQ82 => ?_
    refine vm rfl rfl (vm rfl rfl (RL.val (O.nilp rfl) rfl (RL.val (O.fldA fl72_2 (by decide) rfl) rfl ?_)))
    refine RL.val (O.load sc70 rfl (Cs.adds [6] ((hM.bx (i := 1) rfl)) rfl)) rfl (vm rfl rfl ?_)
    refine Xx hF fun xv85 hx84 hF => ?_
    have hA83 := Rd.atN (f := Xs) (s := 44) (fun _ => rfl) (by decide) (hM.rd (i := 0) rfl) hx84
    refine RL.val (O.idxA sl70 (hA83) rfl rfl) rfl (RL.val (O.loadN (cs := (xv85.cs)) ag89 rfl (hA83).cells) rfl ?_)
    refine Xx hF fun y86 hx87 hF => ?_
    refine RL.call Tryz.func63 bd63 rfl rfl (Vi _ _ _ cv1 _ (hM.lent [1] rfl (by decide)) xv85 _ hx87) fun v w88 hv => ?_
    obtain ⟨rfl, hN89⟩ := hv
    replace hM := hM.call0 hN89
    refine va rfl rfl (nt hQ82 (KC.region (va rfl rfl (RL.nil (KQ.blk_n (KQ.Xy ?_))))))
    exact fun a ha => ⟨y86, true, ha.less (Xa rfl (Xa rfl (Xa rfl (Xa rfl Xj)))), hM, hF⟩
   rw [if_neg (Xv hc)] at hF
   refine KC.skip (KQ.blk_n (KQ.Xy ?_))
   exact fun a ha => ⟨best63, ok64, ha.less (Xa rfl (Xa rfl (Xa rfl (Xa rfl Xj)))), hM, hF⟩
  rintro a w94 ⟨best92, ok93, ha, hM, hF⟩
  refine KC.app ha ?_
  clear ha
  unfold JU at hF
  refine KC.region (vm rfl rfl (RL.val (O.add rfl rfl) rfl (va rfl rfl (RL.nil (KQ.Xy ?_)))))
  exact fun a ha => ⟨k68, Nat.lt_succ_self k68, best92, ok93, (IntKind.i64.wrap (i65 + 1)), ha.less (Xa rfl (Xa rfl (Xa rfl (Xa rfl Xj)))), hM, hF⟩
 rw [if_neg (Xv hc)] at hF
 refine KC.exit (KQ.thx hQ69 (KQ.then_x (KQ.blk_x (KQ.thn hQ11 ?_))))
 refine sr fun Q95 hQ95 => ?_
 refine vm rfl rfl (vm rfl rfl (va rfl rfl (va rfl rfl (nt hQ95 (KC.ret ?_)))))
 have hE := Option.some.inj hF
 clear hF
 subst hE
 replace hM := hM.pick [1, 0] rfl (by decide)
 refine KQ.rets Tryz.results28 (RVs.cons (RV.tm rfl) (RVs.cons (RV.tm rfl) RVs.nil)) ?_
 exact ⟨_, rfl, A4, c5, rfl, hM⟩
theorem KV (w : World) (g2 : Nat) (tg7 : TypeId) (cv1 : Xq) (A4 : Option Addr) (c5 : Nat) (hL10 : Lent w [.box g2 tg7 (v64 cv1.XK :: (cv1.Xu.cs ++ [.slice A4 (cv1.f_L).length c5])), .row A4 c5 89 44 (cv1.f_L).length ((cv1.f_L).flatMap Xs)]) (atv8 reason9 : Int) (r : Xi × Xq) (hF : Yd cv1 atv8 reason9 = some r) :
  CallsR Tryz.prog 62 [.pointer (some ⟨g2, 0, none⟩), vI atv8, v8 reason9] w (fun v w' => ∃ (A0 : Option Addr) (c0 : Nat), v = .agg (r.1.cs).toArray ∧ Mem w [some g2, rblk A4 c5] w' [.box g2 tg7 (v64 r.2.XK :: (r.2.Xu.cs ++ [.slice A0 (r.2.f_L).length c0])), .row A0 c0 89 44 r.2.f_L.length (r.2.f_L.flatMap Xs)]) := by
 refine XJ Tryz.func62 rfl Tryz.ntmps62 rfl ?_
 have hM : Mem w [some g2, rblk A4 c5] w [.box g2 tg7 (v64 cv1.XK :: (cv1.Xu.cs ++ [.slice A4 (cv1.f_L).length c5])), .row A4 c5 89 44 (cv1.f_L).length ((cv1.f_L).flatMap Xs)] := Mem.lendN hL10
 unfold Yd at hF
 refine sr fun Q11 hQ11 => ?_
 refine RL.eff (E.alloc hM ze89) rfl fun v w13 hv => ?_
 clear hM
 obtain ⟨g12, rfl, hM, hf⟩ := hv
 refine nt hQ11 ?_
 refine sr fun Q15 hQ15 => ?_
 refine vm rfl rfl (RL.val (O.nilp rfl) rfl (RL.val (O.fldA fl72_2 (by decide) rfl) rfl ?_))
 refine RL.val (O.load sc70 rfl (Cs.adds [6] ((hM.bx (i := 0) rfl)) rfl)) rfl (vm rfl rfl ?_)
 refine Xx hF fun xv18 hx17 hF => ?_
 have hA16 := Rd.atN (f := Xs) (s := 44) (fun _ => rfl) (by decide) (hM.rd (i := 1) rfl) hx17
 refine RL.val (O.idxA sl70 (hA16) rfl rfl) rfl (RL.val (O.loadN (cs := (xv18.cs)) ag89 rfl (hA16).cells) rfl ?_)
 refine RL.eff (E.alloc hM ze89) rfl fun v w20 hv => ?_
 clear hM
 obtain ⟨g19, rfl, hM, hf⟩ := hv
 refine RL.effs (E.stB (j := 3) (off := 0) (vs := (xv18.cs)) (cs' := (xv18.cs)) hM rfl sz89 rfl (XX [] rfl) rfl rfl (One.all rfl) rfl rfl) fun w22 hM1 => ?_
 clear hM
 have hM := hM1
 clear hM1
 refine nt hQ15 ?_
 refine sr fun Q23 hQ23 => ?_
 refine vm rfl rfl (RL.val (O.fldA fl89_6 (by decide) rfl) rfl ?_)
 refine RL.effs (E.stB (j := 3) (off := 42) (vs := [v8 reason9]) (cs' := (xv18.Xo.cs ++ [v64 xv18.Xk, v64 xv18.Xr, v64 xv18.X4, v64 xv18.Ya, v8 xv18.XO, v8 reason9, v8 xv18.XU])) hM rfl sz5 rfl (XX [42] rfl) rfl rfl (One.all rfl) rfl rfl) fun w24 hM1 => ?_
 clear hM
 have hM := hM1
 clear hM1
 refine nt hQ23 ?_
 refine sr fun Q25 hQ25 => ?_
 refine va rfl rfl (nt hQ25 ?_)
 refine sr fun Q26 hQ26 => ?_
 refine vm rfl rfl (vm rfl rfl (RL.val (O.nilp rfl) rfl (RL.val (O.fldA fl72_2 (by decide) rfl) rfl ?_)))
 refine RL.val (O.load sc70 rfl (Cs.adds [6] ((hM.bx (i := 0) rfl)) rfl)) rfl (vm rfl rfl ?_)
 refine Xx hF fun cut27 hy28 hF => ?_
 refine cutNE A4 c5 (Int.toNat 0) 44 fun A29 c30 eA32 ec33 => ?_
 have hr31 := Rd.cutT (enc := Xs) (s := 44) (fun _ => rfl) (hM.rd (i := 1) rfl) hy28 (m := c5) (by have := (hM.rd (i := 1) rfl).cap; have := (gcut_some hy28).2.2.1; omega) (Nat.le_refl _)
 rw [← eA32, ← ec33] at hr31
 refine RL.val (v := .slice A29 (cut27).length c30) (by rw [eA32, ec33]; exact O.cuthT sl70 (hM.rd (i := 1) rfl) hy28 rfl rfl) rfl ?_
 refine XZ hF fun hq37 hF => ?_
 refine RL.eff (E.app0 (enc := Xs) (ys := cut27) hM sl70 ze89 rfl rfl rfl rfl rfl hr31 (fun _ => One.all rfl) (of_decide_eq_true hq37)) rfl fun v w36 hv => ?_
 clear hM
 obtain ⟨A34, c35, rfl, hM, hf⟩ := hv
 have hr31 := Rd.cutT (enc := Xs) (s := 44) (fun _ => rfl) (hM.rd (i := 1) rfl) hy28 (m := c5) (by have := (hM.rd (i := 1) rfl).cap; have := (gcut_some hy28).2.2.1; omega) (Nat.le_refl _)
 rw [← eA32, ← ec33] at hr31
 refine va rfl rfl (nt hQ26 ?_)
 refine sr fun Q39 hQ39 => ?_
 refine vm rfl rfl (vm rfl rfl (vm rfl rfl (RL.val (O.nilp rfl) rfl (RL.val (O.fldA fl72_2 (by decide) rfl) rfl ?_))))
 refine RL.val (O.load sc70 rfl (Cs.adds [6] ((hM.bx (i := 0) rfl)) rfl)) rfl (vm rfl rfl (RL.val (O.add rfl rfl) rfl ?_))
 refine Xx hF fun cut40 hy41 hF => ?_
 refine cutNE A4 c5 (Int.toNat (IntKind.i64.wrap (atv8 + 1))) 44 fun A42 c43 eA45 ec46 => ?_
 have hr44 := Rd.cutT (enc := Xs) (s := 44) (fun _ => rfl) (hM.rd (i := 1) rfl) hy41 (m := c5) (by have := (hM.rd (i := 1) rfl).cap; have := (gcut_some hy41).2.2.1; omega) (Nat.le_refl _)
 rw [← eA45, ← ec46] at hr44
 refine RL.val (v := .slice A42 (cut40).length c43) (by rw [eA45, ec46]; exact O.cutlT sl70 (hM.rd (i := 1) rfl) hy41 rfl rfl) rfl ?_
 refine XZ hF fun hq50 hF => ?_
 refine RL.eff (E.app (enc := Xs) (xs := cut27) (ys := cut40) (j := 4) hM rfl sl70 ze89 rfl rfl rfl rfl rfl hr44 (fun _ => One.all rfl) (of_decide_eq_true hq50)) rfl fun v w49 hv => ?_
 clear hM
 obtain ⟨A47, c48, rfl, hM, hf⟩ := hv
 have hr44 := Rd.cutT (enc := Xs) (s := 44) (fun _ => rfl) (hM.rd (i := 1) rfl) hy41 (m := c5) (by have := (hM.rd (i := 1) rfl).cap; have := (gcut_some hy41).2.2.1; omega) (Nat.le_refl _)
 rw [← eA45, ← ec46] at hr44
 refine RL.val (O.nilp rfl) rfl (RL.val (O.fldA fl72_2 (by decide) rfl) rfl ?_)
 refine RL.effs (E.stB (j := 0) (off := 6) (vs := [.slice A47 ((cut27 ++ cut40)).length c48]) (cs' := (v64 cv1.XK :: (cv1.Xu.cs ++ [.slice A47 ((cut27 ++ cut40)).length c48]))) hM rfl sz70 rfl (XX [6] rfl) rfl rfl (One.all rfl) rfl rfl) fun w52 hM1 => ?_
 clear hM
 have hM := hM1
 clear hM1
 have hr44 := Rd.cutT (enc := Xs) (s := 44) (fun _ => rfl) (hM.rd (i := 1) rfl) hy41 (m := c5) (by have := (hM.rd (i := 1) rfl).cap; have := (gcut_some hy41).2.2.1; omega) (Nat.le_refl _)
 rw [← eA45, ← ec46] at hr44
 refine nt hQ39 ?_
 replace hM := hM.pick [0, 2, 3, 4] rfl (by decide)
 refine sr fun Q53 hQ53 => ?_
 refine RL.val (O.loadN (cs := (xv18.Xo.cs ++ [v64 xv18.Xk, v64 xv18.Xr, v64 xv18.X4, v64 xv18.Ya, v8 xv18.XO, v8 reason9, v8 xv18.XU])) ag89 rfl (Cs.addsN [] ((hM.bx (i := 2) rfl)) rfl)) rfl ?_
 refine RL.effs (E.stB (j := 1) (off := 0) (vs := (xv18.Xo.cs ++ [v64 xv18.Xk, v64 xv18.Xr, v64 xv18.X4, v64 xv18.Ya, v8 xv18.XO, v8 reason9, v8 xv18.XU])) (cs' := (xv18.Xo.cs ++ [v64 xv18.Xk, v64 xv18.Xr, v64 xv18.X4, v64 xv18.Ya, v8 xv18.XO, v8 reason9, v8 xv18.XU])) hM rfl sz89 rfl (XX [] rfl) rfl rfl (One.all rfl) rfl rfl) fun w54 hM1 => ?_
 clear hM
 have hM := hM1
 clear hM1
 refine nt hQ53 (KC.ret ?_)
 have hE := Option.some.inj hF
 clear hF
 subst hE
 have hb55 := hM.bx (i := 1) rfl
 replace hM := hM.pick [0, 3] rfl (by decide)
 refine KQ.rets Tryz.results62 (RVs.cons (RV.cN (cs := (xv18.Xo.cs ++ [v64 xv18.Xk, v64 xv18.Xr, v64 xv18.X4, v64 xv18.Ya, v8 xv18.XO, v8 reason9, v8 xv18.XU])) rfl ag89 hb55) RVs.nil) ?_
 exact ⟨_, rfl, A47, c48, rfl, hM⟩
theorem Uv (w : World) (g2 : Nat) (tg7 : TypeId) (cv1 : Xq) (A4 : Option Addr) (c5 : Nat) (hL9 : Lent w [.box g2 tg7 (v64 cv1.XK :: (cv1.Xu.cs ++ [.slice A4 (cv1.f_L).length c5])), .row A4 c5 89 44 (cv1.f_L).length ((cv1.f_L).flatMap Xs)]) (tick8 : Int) (r : (List Xi) × Xq) (hF : YN cv1 tick8 = some r) :
  CallsR Tryz.prog 24 [.pointer (some ⟨g2, 0, none⟩), v64 tick8] w (fun v w' => ∃ (A0 : Option Addr) (c0 : Nat) (A1 : Option Addr) (c1 : Nat), v = .slice A1 (r.1).length c1 ∧ Mem w [some g2, rblk A4 c5] w' [.box g2 tg7 (v64 r.2.XK :: (r.2.Xu.cs ++ [.slice A0 (r.2.f_L).length c0])), .row A0 c0 89 44 r.2.f_L.length (r.2.f_L.flatMap Xs), .row A1 c1 89 44 r.1.length (r.1.flatMap Xs)]) := by
 refine XJ Tryz.func24 rfl Tryz.ntmps24 rfl ?_
 have hM : Mem w [some g2, rblk A4 c5] w [.box g2 tg7 (v64 cv1.XK :: (cv1.Xu.cs ++ [.slice A4 (cv1.f_L).length c5])), .row A4 c5 89 44 (cv1.f_L).length ((cv1.f_L).flatMap Xs)] := Mem.lendN hL9
 unfold YN at hF
 refine sr fun Q10 hQ10 => ?_
 refine va rfl rfl (nt hQ10 ?_)
 refine sr fun Q11 hQ11 => ?_
 refine va rfl rfl (nt hQ11 ?_)
 refine KC.seqH fun Q12 hQ12 => ?_
 refine sr fun Q13 hQ13 => ?_
 refine vm rfl rfl (vm rfl rfl (RL.val (O.nilp rfl) rfl (RL.val (O.fldA fl72_0 (by decide) rfl) rfl ?_)))
 refine RL.val (O.load sc22 rfl (Cs.adds [0] ((hM.bx (i := 0) rfl)) rfl)) rfl (RL.val (O.lss rfl rfl) rfl (nt hQ13 ?_))
 refine KC.cond rfl (fun hc => ?_) (fun hc => ?_)
 ·rw [if_pos hc] at hF
  refine sr fun Q14 hQ14 => ?_
  refine va rfl rfl (nt hQ14 (KC.ret (KQ.thr hQ12 ?_)))
  have hE := Option.some.inj hF
  clear hF
  subst hE
  replace hM := hM.nilrow 89 44
  refine KQ.rets Tryz.results24 (RVs.cons (RV.tm rfl) RVs.nil) ?_
  exact ⟨_, rfl, A4, c5, none, 0, rfl, hM⟩
 rw [if_neg (Xv hc)] at hF
 refine KC.skip (KQ.thn hQ12 ?_)
 refine sr fun Q15 hQ15 => ?_
 refine vm rfl rfl (vm rfl rfl (RL.val (O.nilp rfl) rfl (RL.val (O.fldA fl72_0 (by decide) rfl) rfl ?_)))
 refine RL.effs (E.stB (j := 0) (off := 0) (vs := [v64 tick8]) (cs' := (v64 tick8 :: (cv1.Xu.cs ++ [.slice A4 (cv1.f_L).length c5]))) hM rfl sz22 rfl (XX [0] rfl) rfl rfl (One.all rfl) rfl rfl) fun w16 hM1 => ?_
 clear hM
 have hM := hM1
 clear hM1
 refine nt hQ15 (KC.block ?_)
 refine KC.loop (fun k213 a w211 => ∃ (A204 : Option Addr) (c205 : Nat) (A208 : Option Addr) (c209 : Nat) (p197 p198 p199 p200 p201 p202 : Int) (p206 out210 : List Xi), Kn 64 [(0, .pointer (some ⟨g2, 0, none⟩)), (1, v64 tick8), (5, .slice A208 (out210).length c209)] a ∧ Mem w [some g2, rblk A4 c5] w211 [.row A204 c205 89 44 (p206).length ((p206).flatMap Xs), .box g2 tg7 [v64 p197, vI p198, v64 p199, v64 p200, v64 p201, v64 p202, .slice A204 (p206).length c205], .row A208 c209 89 44 (out210).length ((out210).flatMap Xs)] ∧ Ye tick8 k213 p197 p198 p199 p200 p201 p202 p206 out210 = some r) ?_ ?_
 ·replace hM := hM.nilrow 89 44
  replace hM := hM.pick [1, 0, 2] rfl (by decide)
  exact fun a ha => ⟨fuel0, A4, c5, none, 0, tick8, cv1.Xu.Xz, cv1.Xu.XI, cv1.Xu.XA, cv1.Xu.Xk, cv1.Xu.Xr, cv1.f_L, ([]), ha.less (Xa rfl (Xa rfl (Xa rfl Xj))), hM, hF⟩
 rintro k213 a w211 ⟨A204, c205, A208, c209, p197, p198, p199, p200, p201, p202, p206, out210, ha, hM, hF⟩
 refine KC.app ha ?_
 clear ha
 cases k213 with
 | zero => exact (Yl hF).elim
 | succ k213 =>
 have hF : ZY (Ye tick8 k213) tick8 p197 p198 p199 p200 p201 p202 p206 out210 = some r := hF
 unfold ZY at hF
 refine KC.block ?_
 refine sr fun Q214 hQ214 => ?_
 refine vm rfl rfl ?_
 refine Xx hF fun y215 hx216 hF => ?_
 refine RL.call Tryz.func28 bd28 rfl rfl (VJ _ _ _ (Xq.mk p197 (Xg.mk p198 p199 p200 p201 p202) p206) _ _ (hM.lent [1, 0] rfl (by decide)) _ hx216) fun v w217 hv => ?_
 obtain ⟨A219, c220, rfl, hN218⟩ := hv
 replace hM := hM.callL [1, 0] [2] rfl rfl (by decide) rfl hN218
 refine vm rfl rfl (RL.val (O.ext rfl rfl) rfl (RL.val (O.ext rfl rfl) rfl (va rfl rfl (va rfl rfl (nt hQ214 ?_)))))
 refine KC.seqH fun Q222 hQ222 => ?_
 refine KC.cut (fun a w227 => ∃ (t226 : Bool), Kn 64 [(0, .pointer (some ⟨g2, 0, none⟩)), (1, v64 tick8), (5, .slice A208 (out210).length c209), (6, v64 y215.1), (31, vB t226)] a ∧ Mem w [some g2, rblk A4 c5] w227 [.row A219 c220 89 44 (y215.2.2.f_L).length ((y215.2.2.f_L).flatMap Xs), .box g2 tg7 (v64 y215.2.2.XK :: (y215.2.2.Xu.cs ++ [.slice A219 (y215.2.2.f_L).length c220])), .row A208 c209 89 44 (out210).length ((out210).flatMap Xs)] ∧ Zl out210 (Ye tick8 k213) y215 t226 = some r) ?_ ?_
 ·refine KC.region (vm rfl rfl (RL.val (O.not rfl) rfl (vm rfl rfl ?_)))
  refine RL.bcase (t := 27) rfl (fun hc => ?_) (fun hc => ?_)
  ·rw [if_pos hc] at hF
   refine RL.gskip rfl rfl rfl rfl (RL.gskip rfl rfl rfl rfl (RL.gskip rfl rfl rfl rfl (RL.val (O.pickt rfl rfl) rfl (RL.nil (KQ.Xy ?_)))))
   replace hM := hM.pick [2, 1, 0] rfl (by decide)
   exact fun a ha => ⟨true, ha.less (Xa rfl (Xa rfl (Xa rfl (Xa rfl (Xa rfl Xj))))), hM, hF⟩
  rw [if_neg (Xv hc)] at hF
  refine RL.gval rfl rfl (O.move rfl) rfl (RL.gval rfl rfl (O.move rfl) rfl (RL.gval rfl rfl (O.gtr rfl rfl) rfl (RL.val (O.pickf rfl rfl) rfl (RL.nil (KQ.Xy ?_)))))
  replace hM := hM.pick [2, 1, 0] rfl (by decide)
  exact fun a ha => ⟨(decide (tick8 < y215.1)), ha.less (Xa rfl (Xa rfl (Xa rfl (Xa rfl (Xa rfl Xj))))), hM, hF⟩
 rintro a w227 ⟨t226, ha, hM, hF⟩
 refine KC.app ha ?_
 clear ha
 unfold Zl at hF
 refine KC.cond rfl (fun hc => ?_) (fun hc => ?_)
 ·rw [if_pos hc] at hF
  refine sr fun Q228 hQ228 => ?_
  refine vm rfl rfl (va rfl rfl (nt hQ228 (KC.ret (KQ.thr hQ222 (KQ.blk_r (KQ.then_r ?_))))))
  refine KQ.blk_r ?_
  have hE := Option.some.inj hF
  clear hF
  subst hE
  replace hM := hM.pick [1, 0, 2] rfl (by decide)
  refine KQ.rets Tryz.results24 (RVs.cons (RV.tm rfl) RVs.nil) ?_
  exact ⟨_, rfl, A219, c220, A208, c209, rfl, hM⟩
 rw [if_neg (Xv hc)] at hF
 refine KC.skip (KQ.thn hQ222 ?_)
 refine sr fun Q229 hQ229 => ?_
 refine va rfl rfl (nt hQ229 ?_)
 refine KC.seqH fun Q230 hQ230 => ?_
 refine KC.block ?_
 refine KC.loop (fun k259 a w257 => ∃ (atv256 : Int), Kn 64 [(0, .pointer (some ⟨g2, 0, none⟩)), (1, v64 tick8), (5, .slice A208 (out210).length c209), (6, v64 y215.1), (8, vI atv256)] a ∧ Mem w [some g2, rblk A4 c5] w257 [.row A219 c220 89 44 (y215.2.2.f_L).length ((y215.2.2.f_L).flatMap Xs), .box g2 tg7 (v64 y215.2.2.XK :: (y215.2.2.Xu.cs ++ [.slice A219 (y215.2.2.f_L).length c220])), .row A208 c209 89 44 (out210).length ((out210).flatMap Xs)] ∧ YV out210 (Ye tick8 k213) y215 k259 atv256 = some r) ?_ ?_
 ·exact fun a ha => ⟨fuel0, 0, ha.less (Xa rfl (Xa rfl (Xa rfl (Xa rfl (Xa rfl Xj))))), hM, hF⟩
 rintro k259 a w257 ⟨atv256, ha, hM, hF⟩
 refine KC.app ha ?_
 clear ha
 cases k259 with
 | zero => exact (Yl hF).elim
 | succ k259 =>
 have hF : Z5 (YV out210 (Ye tick8 k213) y215 k259) out210 (Ye tick8 k213) y215 atv256 = some r := hF
 unfold Z5 at hF
 refine KC.seqH fun Q260 hQ260 => ?_
 refine sr fun Q261 hQ261 => ?_
 refine vm rfl rfl (vm rfl rfl (RL.val (O.nilp rfl) rfl (RL.val (O.fldA fl72_2 (by decide) rfl) rfl ?_)))
 refine RL.val (O.load sc70 rfl (Cs.adds [6] ((hM.bx (i := 1) rfl)) rfl)) rfl (vm rfl rfl ?_)
 refine Xx hF fun xv264 hx263 hF => ?_
 have hA262 := Rd.atN (f := Xs) (s := 44) (fun _ => rfl) (by decide) (hM.rd (i := 0) rfl) hx263
 refine RL.val (O.idxA sl70 (hA262) rfl rfl) rfl (RL.val (O.loadN (cs := (xv264.cs)) ag89 rfl (hA262).cells) rfl ?_)
 refine Xx hF fun y265 hx266 hF => ?_
 refine RL.call Tryz.func63 bd63 rfl rfl (Vi _ _ _ y215.2.2 _ (hM.lent [1] rfl (by decide)) xv264 _ hx266) fun v w267 hv => ?_
 obtain ⟨rfl, hN268⟩ := hv
 replace hM := hM.call0 hN268
 refine vm rfl rfl (RL.val (O.neq rfl rfl) rfl (nt hQ261 ?_))
 refine KC.cond rfl (fun hc => ?_) (fun hc => ?_)
 ·rw [if_pos hc] at hF
  refine KC.skip (KQ.thn hQ260 (KC.block (KC.region (vm rfl rfl (RL.val (O.add rfl rfl) rfl (va rfl rfl ?_))))))
  refine RL.nil (KQ.blk_n (KQ.Xy ?_))
  exact fun a ha => ⟨k259, Nat.lt_succ_self k259, (IntKind.i64.wrap (atv256 + 1)), ha.less (Xa rfl (Xa rfl (Xa rfl (Xa rfl (Xa rfl Xj))))), hM, hF⟩
 rw [if_neg (Xv hc)] at hF
 refine KC.exit (KQ.thx hQ260 (KQ.then_x (KQ.blk_x (KQ.thn hQ230 ?_))))
 refine sr fun Q269 hQ269 => ?_
 refine va rfl rfl (nt hQ269 ?_)
 refine KC.cut (fun a w282 => ∃ (reason281 : Int), Kn 64 [(0, .pointer (some ⟨g2, 0, none⟩)), (1, v64 tick8), (5, .slice A208 (out210).length c209), (8, vI atv256), (9, v8 reason281)] a ∧ Mem w [some g2, rblk A4 c5] w282 [.row A219 c220 89 44 (y215.2.2.f_L).length ((y215.2.2.f_L).flatMap Xs), .box g2 tg7 (v64 y215.2.2.XK :: (y215.2.2.Xu.cs ++ [.slice A219 (y215.2.2.f_L).length c220])), .row A208 c209 89 44 (out210).length ((out210).flatMap Xs)] ∧ Zk out210 (Ye tick8 k213) y215 atv256 reason281 = some r) ?_ ?_
 ·refine sr fun Q270 hQ270 => ?_
  refine vm rfl rfl (vm rfl rfl (RL.val (O.nilp rfl) rfl (RL.val (O.fldA fl72_2 (by decide) rfl) rfl ?_)))
  refine RL.val (O.load sc70 rfl (Cs.adds [6] ((hM.bx (i := 1) rfl)) rfl)) rfl (vm rfl rfl ?_)
  refine Xx hF fun xv273 hx272 hF => ?_
  have hA271 := Rd.atN (f := Xs) (s := 44) (fun _ => rfl) (by decide) (hM.rd (i := 0) rfl) hx272
  refine RL.val (O.idxA sl70 (hA271) rfl rfl) rfl (RL.val (O.loadN (cs := (xv273.cs)) ag89 rfl (hA271).cells) rfl ?_)
  refine Xx hF fun y274 hx275 hF => ?_
  refine RL.call Tryz.func64 bd64 rfl rfl (VN _ _ _ y215.2.2 _ (hM.lent [1] rfl (by decide)) xv273 _ hx275) fun v w276 hv => ?_
  obtain ⟨rfl, hN277⟩ := hv
  replace hM := hM.call0 hN277
  refine vm rfl rfl (RL.val (O.eql rfl rfl) rfl (nt hQ270 ?_))
  refine KC.cond rfl (fun hc => ?_) (fun hc => ?_)
  ·rw [if_pos hc] at hF
   refine KC.region (va rfl rfl (RL.nil (KQ.Xy ?_)))
   exact fun a ha => ⟨1, ha.less (Xa rfl (Xa rfl (Xa rfl (Xa rfl (Xa rfl Xj))))), hM, hF⟩
  rw [if_neg (Xv hc)] at hF
  refine KC.skip (KQ.Xy ?_)
  exact fun a ha => ⟨2, ha.less (Xa rfl (Xa rfl (Xa rfl (Xa rfl (Xa rfl Xj))))), hM, hF⟩
 rintro a w282 ⟨reason281, ha, hM, hF⟩
 refine KC.app ha ?_
 clear ha
 unfold Zk at hF
 refine KC.region (vm rfl rfl (vm rfl rfl (vm rfl rfl (vm rfl rfl ?_))))
 refine Xx hF fun y283 hx284 hF => ?_
 refine RL.call Tryz.func62 bd62 rfl rfl (KV _ _ _ y215.2.2 _ _ (hM.lent [1, 0] rfl (by decide)) atv256 reason281 _ hx284) fun v w285 hv => ?_
 obtain ⟨A287, c288, rfl, hN286⟩ := hv
 replace hM := hM.callL [1, 0] [2] rfl rfl (by decide) rfl hN286
 refine RL.eff (E.bsl (enc := Xs) (xs := ([y283.1] : List Xi)) hM sl70 ze89 rfl rfl rfl (fun _ => rfl) rfl (by kernel_rfl) rfl) rfl fun v w290 hv => ?_
 clear hM
 obtain ⟨A291, rfl, hM, hf⟩ := hv
 refine XZ hF fun hq296 hF => ?_
 refine RL.eff (E.app (enc := Xs) (xs := out210) (ys := ([y283.1] : List Xi)) (j := 0) hM rfl sl70 ze89 rfl rfl rfl rfl rfl (hM.rd (i := 3) rfl) (fun _ => One.all rfl) (of_decide_eq_true hq296)) rfl fun v w295 hv => ?_
 clear hM
 obtain ⟨A293, c294, rfl, hM, hf⟩ := hv
 refine va rfl rfl (RL.nil (KQ.blk_n (KQ.Xy ?_)))
 replace hM := hM.pick [2, 1, 0] rfl (by decide)
 exact fun a ha => ⟨k213, Nat.lt_succ_self k213, A287, c288, A293, c294, y283.2.XK, y283.2.Xu.Xz, y283.2.Xu.XI, y283.2.Xu.XA, y283.2.Xu.Xk, y283.2.Xu.Xr, y283.2.f_L, (out210 ++ ([y283.1] : List Xi)), ha.less (Xa rfl (Xa rfl (Xa rfl Xj))), hM, hF⟩
theorem Xbl (w : World) (six1 : Bool) (r : Int) (hF : Xak six1 = some r) :
  CallsR Tryz.prog 131 [vB six1] w (fun v w' => v = vI r ∧ Mem w [] w' []) := by
 refine XJ Tryz.func131 rfl Tryz.ntmps131 rfl ?_
 have hM := Mem.init w
 unfold Xak at hF
 refine sr fun Q2 hQ2 => ?_
 refine va rfl rfl (nt hQ2 ?_)
 refine KC.seqH fun Q3 hQ3 => ?_
 refine sr fun Q4 hQ4 => ?_
 refine vm rfl rfl (nt hQ4 ?_)
 refine KC.cond rfl (fun hc => ?_) (fun hc => ?_)
 ·rw [if_pos hc] at hF
  refine sr fun Q5 hQ5 => ?_
  refine va rfl rfl (nt hQ5 (KC.ret (KQ.thr hQ3 ?_)))
  have hE := Option.some.inj hF
  clear hF
  subst hE
  refine KQ.rets Tryz.results131 (RVs.cons (RV.tm rfl) RVs.nil) ?_
  exact ⟨_, rfl, rfl, hM⟩
 rw [if_neg (Xv hc)] at hF
 refine KC.skip (KQ.thn hQ3 ?_)
 refine sr fun Q6 hQ6 => ?_
 refine va rfl rfl (nt hQ6 (KC.ret ?_))
 have hE := Option.some.inj hF
 clear hF
 subst hE
 refine KQ.rets Tryz.results131 (RVs.cons (RV.tm rfl) RVs.nil) ?_
 exact ⟨_, rfl, rfl, hM⟩
theorem XaK (w : World) (av1 : Xd) (r : (List Int)) (hF : Vd av1 = some r) :
  CallsR Tryz.prog 121 [.agg (av1.cs).toArray] w (fun v w' => ∃ (A0 : Option Addr) (c0 : Nat), v = .slice A0 (r).length c0 ∧ Mem w [] w' [.row A0 c0 5 1 r.length (r.flatMap (eI .u8))]) := by
 refine XJ Tryz.func121 rfl Tryz.ntmps121 rfl ?_
 have hM := Mem.init w
 unfold Vd at hF
 refine sr fun Q2 hQ2 => ?_
 refine RL.eff (E.box (vs := (av1.cs)) hM rfl rfl) rfl fun v w4 hv => ?_
 clear hM
 obtain ⟨g3, rfl, hM, hf⟩ := hv
 refine va rfl rfl (nt hQ2 ?_)
 refine sr fun Q6 hQ6 => ?_
 refine va rfl rfl (nt hQ6 ?_)
 refine KC.seqH fun Q7 hQ7 => ?_
 refine sr fun Q8 hQ8 => ?_
 refine va rfl rfl (nt hQ8 (KC.block ?_))
 refine KC.loop (fun k57 a w55 => ∃ (A51 : Option Addr) (c52 : Nat) (out53 : List Int) (i54 : Int), Kn 20 [(1, .pointer (some ⟨g3, 0, none⟩)), (3, .slice A51 (out53).length c52), (4, vI i54)] a ∧ Mem w [] w55 [.box g3 75 (av1.cs), .row A51 c52 5 1 (out53).length ((out53).flatMap (eI .u8))] ∧ U2 av1 k57 out53 i54 = some r) ?_ ?_
 ·replace hM := hM.nilrow 5 1
  exact fun a ha => ⟨fuel0, none, 0, ([]), 0, ha.less (Xa rfl (Xa rfl (Xa rfl Xj))), hM, hF⟩
 rintro k57 a w55 ⟨A51, c52, out53, i54, ha, hM, hF⟩
 refine KC.app ha ?_
 clear ha
 cases k57 with
 | zero => exact (Yl hF).elim
 | succ k57 =>
 have hF : Vw (U2 av1 k57) av1 out53 i54 = some r := hF
 unfold Vw at hF
 refine KC.seqH fun Q58 hQ58 => ?_
 refine sr fun Q59 hQ59 => ?_
 refine vm rfl rfl (RL.val (O.fldA fl75_0 (by decide) rfl) rfl ?_)
 refine RL.val (O.load sc4 rfl (Cs.adds [0] ((hM.bx (i := 0) rfl)) rfl)) rfl ?_
 refine Xx hF fun y60 hx61 hF => ?_
 refine RL.call Tryz.func131 bd131 rfl rfl (Xbl _ av1.YQ _ hx61) fun v w62 hv => ?_
 obtain ⟨rfl, hN63⟩ := hv
 replace hM := hM.call0 hN63
 refine RL.val (O.lss rfl rfl) rfl (nt hQ59 ?_)
 refine KC.cond rfl (fun hc => ?_) (fun hc => ?_)
 ·rw [if_pos hc] at hF
  refine KC.skip (KQ.thn hQ58 ?_)
  refine KC.seqH fun Q64 hQ64 => ?_
  refine KC.block (KC.region (vm rfl rfl (vm rfl rfl (RL.val (O.fldA fl75_1 (by decide) rfl) rfl ?_))))
  refine Xx hF fun xv66 hx65 hF => ?_
  refine RL.val (O.idxP Tryz.underlying37 sz5 hx65 rfl rfl) rfl (RL.val (O.load sc5 rfl (Cs.arrAt [1] ((hM.bx (i := 0) rfl)) rfl hx65)) rfl ?_)
  refine RL.eff (E.bsl (enc := (eI .u8)) (xs := ([xv66] : List Int)) hM sl156 ze5 rfl rfl rfl (fun _ => rfl) rfl (by kernel_rfl) rfl) rfl fun v w67 hv => ?_
  clear hM
  obtain ⟨A68, rfl, hM, hf⟩ := hv
  refine XZ hF fun hq73 hF => ?_
  refine RL.eff (E.app (enc := (eI .u8)) (xs := out53) (ys := ([xv66] : List Int)) (j := 1) hM rfl sl156 ze5 rfl rfl rfl rfl rfl (hM.rd (i := 2) rfl) (fun _ => One.all rfl) (of_decide_eq_true hq73)) rfl fun v w72 hv => ?_
  clear hM
  obtain ⟨A70, c71, rfl, hM, hf⟩ := hv
  refine va rfl rfl (RL.nil (KQ.blk_n (KQ.thn hQ64 (KC.region (vm rfl rfl (RL.val (O.add rfl rfl) rfl ?_))))))
  refine va rfl rfl (RL.nil (KQ.Xy ?_))
  replace hM := hM.pick [0, 1] rfl (by decide)
  exact fun a ha => ⟨k57, Nat.lt_succ_self k57, A70, c71, (out53 ++ ([xv66] : List Int)), (IntKind.i64.wrap (i54 + 1)), ha.less (Xa rfl (Xa rfl (Xa rfl Xj))), hM, hF⟩
 rw [if_neg (Xv hc)] at hF
 refine KC.exit (KQ.thx hQ58 (KQ.then_x (KQ.blk_x (KQ.thn hQ7 ?_))))
 refine sr fun Q75 hQ75 => ?_
 refine vm rfl rfl (va rfl rfl (nt hQ75 (KC.ret ?_)))
 have hE := Option.some.inj hF
 clear hF
 subst hE
 replace hM := hM.pick [1] rfl (by decide)
 refine KQ.rets Tryz.results121 (RVs.cons (RV.tm rfl) RVs.nil) ?_
 exact ⟨_, rfl, A51, c52, rfl, hM⟩
theorem Xa6 : ∀ (kf : Nat) (w : World) (v1 size2 : Int) (r : (List Int)) (hF : K5 kf v1 size2 = some r),
  CallsR Tryz.prog 122 [v64 v1, vI size2] w (fun v w' => ∃ (A0 : Option Addr) (c0 : Nat), v = .slice A0 (r).length c0 ∧ Mem w [] w' [.row A0 c0 5 1 r.length (r.flatMap (eI .u8))]) := by
 intro kf
 induction kf with
 | zero => intro w v1 size2 r hF; exact (Yl hF).elim
 | succ kf ih =>
  intro w v1 size2 r hF
  refine XJ Tryz.func122 rfl Tryz.ntmps122 rfl ?_
  have hM := Mem.init w
  have hF : K1 (K5 kf) v1 size2 = some r := hF
  unfold K1 at hF
  refine sr fun Q3 hQ3 => ?_
  refine va rfl rfl (nt hQ3 ?_)
  refine KC.seqH fun Q4 hQ4 => ?_
  refine sr fun Q5 hQ5 => ?_
  refine vm rfl rfl (RL.val (O.eql rfl rfl) rfl (nt hQ5 ?_))
  refine KC.cond rfl (fun hc => ?_) (fun hc => ?_)
  ·rw [if_pos hc] at hF
   refine sr fun Q6 hQ6 => ?_
   refine va rfl rfl (nt hQ6 (KC.ret (KQ.thr hQ4 ?_)))
   have hE := Option.some.inj hF
   clear hF
   subst hE
   replace hM := hM.nilrow 5 1
   refine KQ.rets Tryz.results122 (RVs.cons (RV.tm rfl) RVs.nil) ?_
   exact ⟨_, rfl, none, 0, rfl, hM⟩
  rw [if_neg (Xv hc)] at hF
  refine KC.skip (KQ.thn hQ4 ?_)
  refine sr fun Q7 hQ7 => ?_
  refine vm rfl rfl (RL.val (O.quo rfl rfl (by decide)) rfl ?_)
  refine vm rfl rfl (RL.val (O.sub rfl rfl) rfl ?_)
  refine Xx hF fun y8 hx9 hF => ?_
  refine RL.call Tryz.func122 bd122 rfl rfl (ih _ (IntKind.u64.wrap (Int.tdiv v1 256)) (IntKind.i64.wrap (size2 - 1)) _ hx9) fun v w10 hv => ?_
  obtain ⟨A12, c13, rfl, hN11⟩ := hv
  replace hM := hM.call hN11
  refine vm rfl rfl (RL.val (O.rem rfl rfl (by decide)) rfl ?_)
  refine RL.val (O.conv un22 Tryz.underlying5 rfl) rfl ?_
  refine RL.eff (E.bsl (enc := (eI .u8)) (xs := ([(IntKind.u8.wrap (Int.tmod v1 256))] : List Int)) hM sl156 ze5 rfl rfl rfl (fun _ => rfl) rfl (by kernel_rfl) rfl) rfl fun v w15 hv => ?_
  clear hM
  obtain ⟨A16, rfl, hM, hf⟩ := hv
  refine XZ hF fun hq21 hF => ?_
  refine RL.eff (E.app (enc := (eI .u8)) (xs := y8) (ys := ([(IntKind.u8.wrap (Int.tmod v1 256))] : List Int)) (j := 0) hM rfl sl156 ze5 rfl rfl rfl rfl rfl (hM.rd (i := 1) rfl) (fun _ => One.all rfl) (of_decide_eq_true hq21)) rfl fun v w20 hv => ?_
  clear hM
  obtain ⟨A18, c19, rfl, hM, hf⟩ := hv
  refine va rfl rfl (nt hQ7 (KC.ret ?_))
  have hE := Option.some.inj hF
  clear hF
  subst hE
  replace hM := hM.pick [0] rfl (by decide)
  refine KQ.rets Tryz.results122 (RVs.cons (RV.tm rfl) RVs.nil) ?_
  exact ⟨_, rfl, A18, c19, rfl, hM⟩
theorem XaV (w : World) (v1 size2 : Int) (r : (List Int)) (hF : VH v1 size2 = some r) :
  CallsR Tryz.prog 122 [v64 v1, vI size2] w (fun v w' => ∃ (A0 : Option Addr) (c0 : Nat), v = .slice A0 (r).length c0 ∧ Mem w [] w' [.row A0 c0 5 1 r.length (r.flatMap (eI .u8))]) := Xa6 fuel0 w v1 size2 r hF
theorem XaJ (w : World) (kv1 : XR) (r : (List Int)) (hF : UQ kv1 = some r) :
  CallsR Tryz.prog 107 [.agg (kv1.cs).toArray] w (fun v w' => ∃ (A0 : Option Addr) (c0 : Nat), v = .slice A0 (r).length c0 ∧ Mem w [] w' [.row A0 c0 5 1 r.length (r.flatMap (eI .u8))]) := by
 refine XJ Tryz.func107 rfl Tryz.ntmps107 rfl ?_
 have hM := Mem.init w
 unfold UQ at hF
 refine sr fun Q2 hQ2 => ?_
 refine RL.eff (E.box (vs := (kv1.cs)) hM rfl rfl) rfl fun v w4 hv => ?_
 clear hM
 obtain ⟨g3, rfl, hM, hf⟩ := hv
 refine va rfl rfl (nt hQ2 ?_)
 refine KC.seqH fun Q6 hQ6 => ?_
 refine sr fun Q7 hQ7 => ?_
 refine RL.val (O.loadN (cs := (kv1.cs)) ag77 rfl (Cs.addsN [] ((hM.bx (i := 0) rfl)) rfl)) rfl ?_
 refine Xx hF fun y8 hx9 hF => ?_
 refine RL.call Tryz.func58 bd58 rfl rfl (XaG _ kv1 _ hx9) fun v w10 hv => ?_
 obtain ⟨rfl, hN11⟩ := hv
 replace hM := hM.call0 hN11
 refine RL.val (O.not rfl) rfl (nt hQ7 ?_)
 refine KC.cond rfl (fun hc => ?_) (fun hc => ?_)
 ·rw [if_pos hc] at hF
  refine sr fun Q12 hQ12 => ?_
  refine va rfl rfl (nt hQ12 (KC.ret (KQ.thr hQ6 ?_)))
  have hE := Option.some.inj hF
  clear hF
  subst hE
  replace hM := hM.nilrow 5 1
  replace hM := hM.pick [1] rfl (by decide)
  refine KQ.rets Tryz.results107 (RVs.cons (RV.tm rfl) RVs.nil) ?_
  exact ⟨_, rfl, none, 0, rfl, hM⟩
 rw [if_neg (Xv hc)] at hF
 refine KC.skip (KQ.thn hQ6 ?_)
 refine sr fun Q13 hQ13 => ?_
 refine RL.eff (E.bsl (enc := (eI .u8)) (xs := ([4] : List Int)) hM sl156 ze5 rfl rfl rfl (fun _ => rfl) rfl (by kernel_rfl) rfl) rfl fun v w14 hv => ?_
 clear hM
 obtain ⟨A15, rfl, hM, hf⟩ := hv
 refine va rfl rfl (nt hQ13 ?_)
 refine KC.cut (fun a w28 => ∃ (A25 : Option Addr) (c26 : Nat) (out27 : List Int), Kn 40 [(1, .pointer (some ⟨g3, 0, none⟩)), (3, .slice A25 (out27).length c26)] a ∧ Mem w [] w28 [.box g3 77 (kv1.cs), .row A25 c26 5 1 (out27).length ((out27).flatMap (eI .u8))] ∧ Kv kv1 out27 = some r) ?_ ?_
 ·refine sr fun Q17 hQ17 => ?_
  refine RL.val (O.fldA fl77_0 (by decide) rfl) rfl ?_
  refine RL.val (O.fldA fl75_0 (by decide) rfl) rfl ?_
  refine RL.val (O.load sc4 rfl (Cs.adds [0, 0] ((hM.bx (i := 0) rfl)) rfl)) rfl (nt hQ17 ?_)
  refine KC.cond rfl (fun hc => ?_) (fun hc => ?_)
  ·rw [if_pos hc] at hF
   refine KC.region (vm rfl rfl ?_)
   refine Xx hF fun xv20 hx19 hF => ?_
   have hA18 := Rd.atN (f := (eI .u8)) (s := 1) (fun _ => rfl) (by decide) (hM.rd (i := 1) rfl) hx19
   refine RL.val (O.idxA sl156 (hA18) rfl rfl) rfl ?_
   refine RL.effs (E.stR (enc := (eI .u8)) (j := 1) (off := 0) (vs := [v8 6]) (x' := 6) hM rfl (fun _ => rfl) hx19 sz5 rfl (addsR_eq [] rfl) rfl rfl (One.all rfl) rfl rfl) fun w21 hM1 => ?_
   clear hM
   obtain ⟨hM, hn22⟩ := hM1
   refine RL.reslot (t := 3) rfl hn22 (RL.reslot (t := 11) rfl hn22 (RL.nil (KQ.Xy ?_)))
   exact fun a ha => ⟨A15, 1, (([4] : List Int).set (0 : Int).toNat 6), ha.less (Xa rfl (Xa rfl Xj)), hM, hF⟩
  rw [if_neg (Xv hc)] at hF
  refine KC.skip (KQ.Xy ?_)
  exact fun a ha => ⟨A15, 1, ([4] : List Int), ha.less (Xa rfl (Xa rfl Xj)), hM, hF⟩
 rintro a w28 ⟨A25, c26, out27, ha, hM, hF⟩
 refine KC.app ha ?_
 clear ha
 unfold Kv at hF
 refine sr fun Q29 hQ29 => ?_
 refine vm rfl rfl (RL.val (O.fldA fl77_0 (by decide) rfl) rfl ?_)
 refine RL.val (O.loadN (cs := (kv1.XL.cs)) ag75 rfl (Cs.addsN [0] ((hM.bx (i := 0) rfl)) rfl)) rfl ?_
 refine Xx hF fun y30 hx31 hF => ?_
 refine RL.call Tryz.func121 bd121 rfl rfl (XaK _ kv1.XL _ hx31) fun v w32 hv => ?_
 obtain ⟨A34, c35, rfl, hN33⟩ := hv
 replace hM := hM.call hN33
 refine XZ hF fun hq40 hF => ?_
 refine RL.eff (E.app (enc := (eI .u8)) (xs := out27) (ys := y30) (j := 1) hM rfl sl156 ze5 rfl rfl rfl rfl rfl (hM.rd (i := 2) rfl) (fun _ => One.all rfl) (of_decide_eq_true hq40)) rfl fun v w39 hv => ?_
 clear hM
 obtain ⟨A37, c38, rfl, hM, hf⟩ := hv
 refine va rfl rfl (nt hQ29 ?_)
 refine sr fun Q42 hQ42 => ?_
 refine vm rfl rfl (RL.val (O.fldA fl77_1 (by decide) rfl) rfl ?_)
 refine RL.val (O.loadN (cs := (kv1.XN.cs)) ag75 rfl (Cs.addsN [17] ((hM.bx (i := 0) rfl)) rfl)) rfl ?_
 refine Xx hF fun y43 hx44 hF => ?_
 refine RL.call Tryz.func121 bd121 rfl rfl (XaK _ kv1.XN _ hx44) fun v w45 hv => ?_
 obtain ⟨A47, c48, rfl, hN46⟩ := hv
 replace hM := hM.call hN46
 refine XZ hF fun hq53 hF => ?_
 refine RL.eff (E.app (enc := (eI .u8)) (xs := (out27 ++ y30)) (ys := y43) (j := 1) hM rfl sl156 ze5 rfl rfl rfl rfl rfl (hM.rd (i := 3) rfl) (fun _ => One.all rfl) (of_decide_eq_true hq53)) rfl fun v w52 hv => ?_
 clear hM
 obtain ⟨A50, c51, rfl, hM, hf⟩ := hv
 refine va rfl rfl (nt hQ42 ?_)
 replace hM := hM.pick [0, 1] rfl (by decide)
 refine sr fun Q55 hQ55 => ?_
 refine vm rfl rfl (RL.val (O.fldA fl77_2 (by decide) rfl) rfl ?_)
 refine RL.val (O.load sc5 rfl (Cs.adds [34] ((hM.bx (i := 0) rfl)) rfl)) rfl ?_
 refine RL.eff (E.bsl (enc := (eI .u8)) (xs := ([kv1.X2] : List Int)) hM sl156 ze5 rfl rfl rfl (fun _ => rfl) rfl (by kernel_rfl) rfl) rfl fun v w56 hv => ?_
 clear hM
 obtain ⟨A57, rfl, hM, hf⟩ := hv
 refine XZ hF fun hq62 hF => ?_
 refine RL.eff (E.app (enc := (eI .u8)) (xs := ((out27 ++ y30) ++ y43)) (ys := ([kv1.X2] : List Int)) (j := 1) hM rfl sl156 ze5 rfl rfl rfl rfl rfl (hM.rd (i := 2) rfl) (fun _ => One.all rfl) (of_decide_eq_true hq62)) rfl fun v w61 hv => ?_
 clear hM
 obtain ⟨A59, c60, rfl, hM, hf⟩ := hv
 refine va rfl rfl (nt hQ55 ?_)
 refine sr fun Q64 hQ64 => ?_
 refine vm rfl rfl (RL.val (O.fldA fl77_3 (by decide) rfl) rfl ?_)
 refine RL.val (O.load sc40 rfl (Cs.adds [35] ((hM.bx (i := 0) rfl)) rfl)) rfl (RL.val (O.conv un40 Tryz.underlying22 rfl) rfl ?_)
 refine Xx hF fun y65 hx66 hF => ?_
 refine RL.call Tryz.func122 bd122 rfl rfl (XaV _ (IntKind.u64.wrap kv1.X6) 2 _ hx66) fun v w67 hv => ?_
 obtain ⟨A69, c70, rfl, hN68⟩ := hv
 replace hM := hM.call hN68
 refine XZ hF fun hq75 hF => ?_
 refine RL.eff (E.app (enc := (eI .u8)) (xs := (((out27 ++ y30) ++ y43) ++ ([kv1.X2] : List Int))) (ys := y65) (j := 1) hM rfl sl156 ze5 rfl rfl rfl rfl rfl (hM.rd (i := 3) rfl) (fun _ => One.all rfl) (of_decide_eq_true hq75)) rfl fun v w74 hv => ?_
 clear hM
 obtain ⟨A72, c73, rfl, hM, hf⟩ := hv
 refine va rfl rfl (nt hQ64 ?_)
 replace hM := hM.pick [0, 1] rfl (by decide)
 refine sr fun Q77 hQ77 => ?_
 refine vm rfl rfl (RL.val (O.fldA fl77_4 (by decide) rfl) rfl ?_)
 refine RL.val (O.load sc40 rfl (Cs.adds [36] ((hM.bx (i := 0) rfl)) rfl)) rfl (RL.val (O.conv un40 Tryz.underlying22 rfl) rfl ?_)
 refine Xx hF fun y78 hx79 hF => ?_
 refine RL.call Tryz.func122 bd122 rfl rfl (XaV _ (IntKind.u64.wrap kv1.X1) 2 _ hx79) fun v w80 hv => ?_
 obtain ⟨A82, c83, rfl, hN81⟩ := hv
 replace hM := hM.call hN81
 refine XZ hF fun hq88 hF => ?_
 refine RL.eff (E.app (enc := (eI .u8)) (xs := ((((out27 ++ y30) ++ y43) ++ ([kv1.X2] : List Int)) ++ y65)) (ys := y78) (j := 1) hM rfl sl156 ze5 rfl rfl rfl rfl rfl (hM.rd (i := 2) rfl) (fun _ => One.all rfl) (of_decide_eq_true hq88)) rfl fun v w87 hv => ?_
 clear hM
 obtain ⟨A85, c86, rfl, hM, hf⟩ := hv
 refine va rfl rfl (nt hQ77 (KC.ret ?_))
 have hE := Option.some.inj hF
 clear hF
 subst hE
 replace hM := hM.pick [1] rfl (by decide)
 refine KQ.rets Tryz.results107 (RVs.cons (RV.tm rfl) RVs.nil) ?_
 exact ⟨_, rfl, A85, c86, rfl, hM⟩
theorem Xbp (w : World) (av1 : XR) (b2 : XR) (r : Int) (hF : Vk av1 b2 = some r) :
  CallsR Tryz.prog 88 [.agg (av1.cs).toArray, .agg (b2.cs).toArray] w (fun v w' => v = vI r ∧ Mem w [] w' []) := by
 refine XJ Tryz.func88 rfl Tryz.ntmps88 rfl ?_
 have hM := Mem.init w
 unfold Vk at hF
 refine sr fun Q3 hQ3 => ?_
 refine RL.eff (E.box (vs := (av1.cs)) hM rfl rfl) rfl fun v w5 hv => ?_
 clear hM
 obtain ⟨g4, rfl, hM, hf⟩ := hv
 refine RL.eff (E.box (vs := (b2.cs)) hM rfl rfl) rfl fun v w8 hv => ?_
 clear hM
 obtain ⟨g7, rfl, hM, hf⟩ := hv
 refine va rfl rfl (nt hQ3 ?_)
 refine KC.seqH fun Q10 hQ10 => ?_
 replace hM := hM.drewN 1
 refine KC.draw [] [] [1, 4] [6, 7] (.ofList [0, 3, 1, 2, 4, 5, 6, 7]) moP (by kernel_rfl) ?_
 refine RD.q rfl rfl rfl rfl (fun w' hf => O.loadN (cs := (av1.cs)) ag77 rfl (Cs.addsN [] ((hM.bx (i := 0) rfl).fut hf) rfl)) ?_
 refine RD.q rfl rfl rfl rfl (fun w' hf => O.loadN (cs := (b2.cs)) ag77 rfl (Cs.addsN [] ((hM.bx (i := 1) rfl).fut hf) rfl)) ?_
 refine Xx hF fun y11 hx12 hF => ?_
 refine RD.mcall rfl rfl trivial Tryz.func107 bd107 rfl rfl (XaJ _ av1 _ hx12) fun v w13 hv => ?_
 obtain ⟨A15, c16, rfl, hN14⟩ := hv
 refine ⟨fun _ => hN14.fut, ?_⟩
 replace hM := hM.call hN14
 refine RD.q rfl rfl rfl rfl (fun w' hf => O.b2s sl156 Tryz.underlying5 Tryz.underlying9 rfl ((hM.rd (i := 2) rfl).fut hf)) ?_
 refine Xx hF fun y18 hx19 hF => ?_
 refine RD.mcall rfl rfl trivial Tryz.func107 bd107 rfl rfl (XaJ _ b2 _ hx19) fun v w20 hv => ?_
 obtain ⟨A22, c23, rfl, hN21⟩ := hv
 refine ⟨fun _ => hN21.fut, ?_⟩
 replace hM := hM.call hN21
 refine RD.q rfl rfl rfl rfl (fun w' hf => O.b2s sl156 Tryz.underlying5 Tryz.underlying9 rfl ((hM.rd (i := 3) rfl).fut hf)) ?_
 refine RD.p rfl rfl rfl rfl (fun w' => O.assign rfl) ?_
 refine RD.p rfl rfl rfl rfl (fun w' => O.assign rfl) (RD.nil (KQ.thn hQ10 ?_))
 replace hM := hM.pick [] rfl (by decide)
 refine KC.seqH fun Q25 hQ25 => ?_
 refine sr fun Q26 hQ26 => ?_
 refine vm rfl rfl (vm rfl rfl (RL.val (O.strlss rfl rfl) rfl (nt hQ26 ?_)))
 refine KC.cond rfl (fun hc => ?_) (fun hc => ?_)
 ·rw [if_pos hc] at hF
  refine sr fun Q27 hQ27 => ?_
  refine va rfl rfl (nt hQ27 (KC.ret (KQ.thr hQ25 ?_)))
  have hE := Option.some.inj hF
  clear hF
  subst hE
  refine KQ.rets Tryz.results88 (RVs.cons (RV.tm rfl) RVs.nil) ?_
  exact ⟨_, rfl, rfl, hM⟩
 rw [if_neg (Xv hc)] at hF
 refine KC.skip (KQ.thn hQ25 ?_)
 refine KC.seqH fun Q28 hQ28 => ?_
 refine sr fun Q29 hQ29 => ?_
 refine vm rfl rfl (vm rfl rfl (RL.val (O.strgtr rfl rfl) rfl (nt hQ29 ?_)))
 refine KC.cond rfl (fun hc => ?_) (fun hc => ?_)
 ·rw [if_pos hc] at hF
  refine sr fun Q30 hQ30 => ?_
  refine va rfl rfl (nt hQ30 (KC.ret (KQ.thr hQ28 ?_)))
  have hE := Option.some.inj hF
  clear hF
  subst hE
  refine KQ.rets Tryz.results88 (RVs.cons (RV.tm rfl) RVs.nil) ?_
  exact ⟨_, rfl, rfl, hM⟩
 rw [if_neg (Xv hc)] at hF
 refine KC.skip (KQ.thn hQ28 ?_)
 refine sr fun Q31 hQ31 => ?_
 refine va rfl rfl (nt hQ31 (KC.ret ?_))
 have hE := Option.some.inj hF
 clear hF
 subst hE
 refine KQ.rets Tryz.results88 (RVs.cons (RV.tm rfl) RVs.nil) ?_
 exact ⟨_, rfl, rfl, hM⟩
end Go.Proofs.YtkpnocgfhipidaaGreat
