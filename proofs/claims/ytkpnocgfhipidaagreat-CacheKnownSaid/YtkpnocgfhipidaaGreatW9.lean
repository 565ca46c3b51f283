/- Printed by a program of this claim: each call returns what the plain function of its name gives. -/
import Derived.Test.YtkpnocgfhipidaaGreatW1
import Derived.Test.YtkpnocgfhipidaaGreatW5
import Derived.Test.YtkpnocgfhipidaaGreatW8
set_option linter.unusedVariables false
set_option maxRecDepth 100000
set_option maxHeartbeats 40000000
namespace Go.Proofs.YtkpnocgfhipidaaGreat
open Go Go.Ox Go.RowKit
theorem YR (w : World) (r : Bool) (hF : Yw = some r) :
  CallsR Tryz.prog 5 [] w (fun v w' => v = vB r ∧ Mem w [] w' []) := by
 refine XJ Tryz.func5 rfl Tryz.ntmps5 rfl ?_
 have hM := Mem.init w
 unfold Yw at hF
 refine sr fun Q1 hQ1 => ?_
 refine va rfl rfl (nt hQ1 ?_)
 refine sr fun Q2 hQ2 => ?_
 refine RL.val (O.bld (cs := [vI 2, v64 5, v64 20, v64 3, v64 1000]) bt24 rfl (by kernel_rfl)) rfl ?_
 refine RL.icall Tryz.func6 bd6 rfl rfl rfl Tryz.ntmps6 rfl ?_
 refine sr fun Q3 hQ3 => ?_
 refine RL.eff (E.box (vs := [vI 2, v64 5, v64 20, v64 3, v64 1000]) hM rfl rfl) rfl fun v w5 hv => ?_
 clear hM
 obtain ⟨g4, rfl, hM, hf⟩ := hv
 refine va rfl rfl (va rfl rfl (nt hQ3 ?_))
 refine KC.seqH fun Q7 hQ7 => ?_
 refine KC.cut (fun a w9 => Kn 53 [(0, v64 0), (3, .pointer (some ⟨g4, 0, none⟩)), (35, vB false)] a ∧ Mem w [] w9 [.box g4 24 [vI 2, v64 5, v64 20, v64 3, v64 1000]] ∧ Vx = some r) ?_ ?_
 ·refine KC.region (RL.val (O.fldA fl24_0 (by decide) rfl) rfl ?_)
  refine RL.val (O.load sc3 rfl (Cs.adds [0] ((hM.bx (i := 0) rfl)) rfl)) rfl (RL.val (O.lss rfl rfl) rfl (vm rfl rfl (RL.gval rfl rfl (O.fldA fl24_0 (by decide) rfl) rfl ?_)))
  refine RL.gval rfl rfl (O.load sc3 rfl (Cs.adds [0] ((hM.bx (i := 0) rfl)) rfl)) rfl (RL.gval rfl rfl (O.gtr rfl rfl) rfl (RL.val (O.pickf rfl rfl) rfl (vm rfl rfl (RL.gval rfl rfl (O.fldA fl24_1 (by decide) rfl) rfl ?_))))
  refine RL.gval rfl rfl (O.load sc22 rfl (Cs.adds [1] ((hM.bx (i := 0) rfl)) rfl)) rfl (RL.gval rfl rfl (O.eql rfl rfl) rfl (RL.val (O.pickf rfl rfl) rfl (vm rfl rfl (RL.gval rfl rfl (O.fldA fl24_2 (by decide) rfl) rfl ?_))))
  refine RL.gval rfl rfl (O.load sc22 rfl (Cs.adds [2] ((hM.bx (i := 0) rfl)) rfl)) rfl (RL.gval rfl rfl (O.eql rfl rfl) rfl (RL.val (O.pickf rfl rfl) rfl (vm rfl rfl (RL.gval rfl rfl (O.fldA fl24_3 (by decide) rfl) rfl ?_))))
  refine RL.gval rfl rfl (O.load sc22 rfl (Cs.adds [3] ((hM.bx (i := 0) rfl)) rfl)) rfl (RL.gval rfl rfl (O.eql rfl rfl) rfl (RL.val (O.pickf rfl rfl) rfl (vm rfl rfl (RL.gval rfl rfl (O.fldA fl24_4 (by decide) rfl) rfl ?_))))
  refine RL.gval rfl rfl (O.load sc22 rfl (Cs.adds [4] ((hM.bx (i := 0) rfl)) rfl)) rfl (RL.gval rfl rfl (O.eql rfl rfl) rfl (RL.val (O.pickf rfl rfl) rfl (RL.nil (KQ.Xy ?_))))
  exact fun a ha => ⟨ha.less (Xa rfl (Xa rfl (Xa rfl Xj))), hM, hF⟩
 rintro a w9 ⟨ha, hM, hF⟩
 refine KC.app ha ?_
 clear ha
 unfold Vx at hF
 refine KC.condF rfl (KC.skip (KQ.thn hQ7 ?_))
 refine sr fun Q10 hQ10 => ?_
 refine RL.val (O.fldA fl24_0 (by decide) rfl) rfl ?_
 refine RL.val (O.load sc3 rfl (Cs.adds [0] ((hM.bx (i := 0) rfl)) rfl)) rfl (RL.val (O.conv un3 Tryz.underlying67 rfl) rfl ?_)
 refine Xx hF fun y11 hx12 hF => ?_
 refine RL.call Tryz.func20 bd20 rfl rfl (Kk _ (IntKind.u64.wrap 2) _ hx12) fun v w13 hv => ?_
 obtain ⟨rfl, hN14⟩ := hv
 replace hM := hM.call0 hN14
 refine XZ hF fun hq15 hF => ?_
 refine RL.val (O.shl rfl rfl (of_decide_eq_true hq15)) rfl (RL.icall Tryz.func19 bd19 rfl rfl rfl Tryz.ntmps19 rfl ?_)
 refine sr fun Q16 hQ16 => ?_
 refine va rfl rfl (va rfl rfl (nt hQ16 ?_))
 refine KC.seqH fun Q17 hQ17 => ?_
 refine KC.cut (fun a w20 => ∃ (xv18 : Bool), Kn 21 [(0, vI (Ox.shl .i64 1 y11)), (16, vB xv18)] a ∧ Mem w [] w20 [.box g4 24 [vI 2, v64 5, v64 20, v64 3, v64 1000]] ∧ Ua y11 xv18 = some r) ?_ ?_
 ·refine KC.region (vm rfl rfl (RL.val (O.lss rfl rfl) rfl (vm rfl rfl ?_)))
  refine RL.bcase (t := 6) rfl (fun hc => ?_) (fun hc => ?_)
  ·rw [if_pos hc] at hF
   refine RL.brun1 10 16 true (by kernel_rfl) ?_
   refine RL.nil (KQ.Xy ?_)
   exact fun a ha => ⟨true, ha.less (Xa rfl (Xa rfl Xj)), hM, hF⟩
  rw [if_neg (Xv hc)] at hF
  refine RL.gval rfl rfl (O.move rfl) rfl (RL.gval rfl rfl (O.gtr rfl rfl) rfl (RL.val (O.pickf rfl rfl) rfl (vm rfl rfl ?_)))
  refine RL.bcase (t := 10) rfl (fun hc => ?_) (fun hc => ?_)
  ·rw [if_pos hc] at hF
   refine RL.brun1 6 16 true (by kernel_rfl) ?_
   refine RL.nil (KQ.Xy ?_)
   exact fun a ha => ⟨true, ha.less (Xa rfl (Xa rfl Xj)), hM, hF⟩
  rw [if_neg (Xv hc)] at hF
  refine RL.gval rfl rfl (O.move rfl) rfl (RL.gval rfl rfl (O.move rfl) rfl (RL.gval rfl rfl (O.sub rfl rfl) rfl (RL.gval rfl rfl (O.and rfl rfl) rfl (RL.gval rfl rfl (O.neq rfl rfl) rfl (RL.val (O.pickf rfl rfl) rfl (RL.nil ?_))))))
  refine KQ.Xy ?_
  exact fun a ha => ⟨((bits .and .i64 (Ox.shl .i64 1 y11) (IntKind.i64.wrap ((Ox.shl .i64 1 y11) - 1))) != 0), ha.less (Xa rfl (Xa rfl Xj)), hM, hF⟩
 rintro a w20 ⟨xv18, ha, hM, hF⟩
 refine KC.app ha ?_
 clear ha
 unfold Ua at hF
 refine KC.cond rfl (fun hc => ?_) (fun hc => ?_)
 ·rw [if_pos hc] at hF
  refine sr fun Q21 hQ21 => ?_
  refine va rfl rfl (va rfl rfl (nt hQ21 (KC.ret (KQ.thr hQ17 (KQ.rets Tryz.results19 (RVs.cons (RV.tm rfl) (RVs.cons (RV.tm rfl) RVs.nil)) (⟨.tuple #[.pointer none, vI 2], rfl, ?_⟩))))))
  refine vm rfl rfl (RL.val (O.ext rfl rfl) rfl (RL.val (O.ext rfl rfl) rfl (va rfl rfl (va rfl rfl (nt hQ10 ?_)))))
  refine KC.seqH fun Q22 hQ22 => ?_
  refine sr fun Q23 hQ23 => ?_
  refine vm rfl rfl (RL.val (O.neq rfl rfl) rfl (nt hQ23 (KC.condT rfl ?_)))
  refine sr fun Q24 hQ24 => ?_
  refine vm rfl rfl (va rfl rfl (va rfl rfl (nt hQ24 (KC.ret (KQ.thr hQ22 (KQ.rets Tryz.results6 (RVs.cons (RV.tm rfl) (RVs.cons (RV.tm rfl) RVs.nil)) ?_))))))
  refine ⟨.tuple #[.pointer none, vI 2], rfl, ?_⟩
  refine vm rfl rfl (RL.val (O.ext rfl rfl) rfl (RL.val (O.ext rfl rfl) rfl (va rfl rfl (va rfl rfl (nt hQ2 ?_)))))
  refine KC.seqH fun Q25 hQ25 => ?_
  refine sr fun Q26 hQ26 => ?_
  refine vm rfl rfl (RL.val (O.neq rfl rfl) rfl (nt hQ26 (KC.condT rfl ?_)))
  refine sr fun Q27 hQ27 => ?_
  refine va rfl rfl (nt hQ27 (KC.ret (KQ.thr hQ25 ?_)))
  have hE := Option.some.inj hF
  clear hF
  subst hE
  replace hM := hM.pick [] rfl (by decide)
  refine KQ.rets Tryz.results5 (RVs.cons (RV.tm rfl) RVs.nil) ?_
  exact ⟨_, rfl, rfl, hM⟩
 rw [if_neg (Xv hc)] at hF
 refine KC.skip (KQ.thn hQ17 ?_)
 refine sr fun Q28 hQ28 => ?_
 refine vm rfl rfl ?_
 refine XZ hF fun hq31 hF => ?_
 refine RL.eff (E.mks (enc := Xt) (zr := (Xm.mk false (Xe.mk (Xd.mk false (List.replicate 16 0)) (Xd.mk false (List.replicate 16 0)) 0 0 0) 0)) hM sl117 ze140 rfl rfl (fun _ => rfl) rfl rfl rfl (of_decide_eq_true hq31)) rfl fun v w30 hv => ?_
 clear hM
 obtain ⟨A29, rfl, hM, hf⟩ := hv
 refine RL.val (O.bld (cs := [.slice A29 ((List.replicate (Int.toNat (Ox.shl .i64 1 y11)) ((Xm.mk false (Xe.mk (Xd.mk false (List.replicate 16 0)) (Xd.mk false (List.replicate 16 0)) 0 0 0) 0) : Xm))).length (Int.toNat (Ox.shl .i64 1 y11)), vI 0]) bt119 rfl (by kernel_rfl)) rfl ?_
 refine RL.eff (E.box (vs := [.slice A29 ((List.replicate (Int.toNat (Ox.shl .i64 1 y11)) ((Xm.mk false (Xe.mk (Xd.mk false (List.replicate 16 0)) (Xd.mk false (List.replicate 16 0)) 0 0 0) 0) : Xm))).length (Int.toNat (Ox.shl .i64 1 y11)), vI 0]) hM rfl rfl) rfl fun v w34 hv => ?_
 clear hM
 obtain ⟨g33, rfl, hM, hf⟩ := hv
 refine va rfl rfl (va rfl rfl (nt hQ28 (KC.ret (KQ.rets Tryz.results19 (RVs.cons (RV.tm rfl) (RVs.cons (RV.tm rfl) RVs.nil)) (⟨.tuple #[.pointer (some ⟨g33, 0, none⟩), vI 0], rfl, ?_⟩)))))
 refine vm rfl rfl (RL.val (O.ext rfl rfl) rfl (RL.val (O.ext rfl rfl) rfl (va rfl rfl (va rfl rfl (nt hQ10 ?_)))))
 refine KC.seqH fun Q36 hQ36 => ?_
 refine sr fun Q37 hQ37 => ?_
 refine vm rfl rfl (RL.val (O.neq rfl rfl) rfl (nt hQ37 (KC.condF rfl (KC.skip (KQ.thn hQ36 ?_)))))
 refine sr fun Q38 hQ38 => ?_
 refine vm rfl rfl (RL.val (O.loadN (cs := [vI 2, v64 5, v64 20, v64 3, v64 1000]) ag24 rfl (Cs.addsN [] ((hM.bx (i := 0) rfl)) rfl)) rfl (vm rfl rfl (RL.val (O.bld (cs := [v64 0, vI 2, v64 5, v64 20, v64 3, v64 1000, .pointer (some ⟨g33, 0, none⟩), .slice none 0 0]) bt69 rfl (by kernel_rfl)) rfl ?_)))
 refine RL.eff (E.box (vs := [v64 0, vI 2, v64 5, v64 20, v64 3, v64 1000, .pointer (some ⟨g33, 0, none⟩), .slice none 0 0]) hM rfl rfl) rfl fun v w40 hv => ?_
 clear hM
 obtain ⟨g39, rfl, hM, hf⟩ := hv
 refine va rfl rfl (va rfl rfl (nt hQ38 (KC.ret (KQ.rets Tryz.results6 (RVs.cons (RV.tm rfl) (RVs.cons (RV.tm rfl) RVs.nil)) (⟨.tuple #[.pointer (some ⟨g39, 0, none⟩), vI 0], rfl, ?_⟩)))))
 refine vm rfl rfl (RL.val (O.ext rfl rfl) rfl (RL.val (O.ext rfl rfl) rfl (va rfl rfl (va rfl rfl (nt hQ2 ?_)))))
 replace hM := hM.pick [1, 2, 3] rfl (by decide)
 refine KC.seqH fun Q42 hQ42 => ?_
 refine sr fun Q43 hQ43 => ?_
 refine vm rfl rfl (RL.val (O.neq rfl rfl) rfl (nt hQ43 (KC.condF rfl (KC.skip (KQ.thn hQ42 ?_)))))
 refine sr fun Q44 hQ44 => ?_
 refine Xx hF fun y45 hx46 hF => ?_
 refine RL.call Tryz.func15 bd15 rfl rfl (Vu _ 1 _ hx46) fun v w47 hv => ?_
 obtain ⟨rfl, hN48⟩ := hv
 replace hM := hM.call0 hN48
 refine RL.eff (E.alloc hM ze44) rfl fun v w50 hv => ?_
 clear hM
 obtain ⟨g49, rfl, hM, hf⟩ := hv
 refine RL.effs (E.stB (j := 3) (off := 0) (vs := (y45.cs)) (cs' := (y45.cs)) hM rfl sz44 rfl (XX [] rfl) rfl rfl (One.all rfl) rfl rfl) fun w52 hM1 => ?_
 clear hM
 have hM := hM1
 clear hM1
 refine nt hQ44 ?_
 refine sr fun Q53 hQ53 => ?_
 refine vm rfl rfl (RL.val (O.loadN (cs := (y45.cs)) ag44 rfl (Cs.addsN [] ((hM.bx (i := 3) rfl)) rfl)) rfl ?_)
 replace hM := hM.nilrow 62 44
 refine Xx hF fun y55 hx56 hF => ?_
 refine RL.call Tryz.func16 bd16 rfl rfl (Yp _ _ _ (Xl.mk 0 (Xg.mk 2 5 20 3 1000) (Xw.mk (List.replicate (Int.toNat (Ox.shl .i64 1 y11)) ((Xm.mk false (Xe.mk (Xd.mk false (List.replicate 16 0)) (Xd.mk false (List.replicate 16 0)) 0 0 0) 0) : Xm)) 0) ([] : List Xc)) _ _ _ _ _ (hM.lent [2, 1, 0, 4] rfl (by decide)) y45 0 1 _ hx56) fun v w57 hv => ?_
 obtain ⟨g59, A61, c62, A64, c65, A67, c68, rfl, hN58⟩ := hv
 replace hM := hM.callL [2, 1, 0, 4] [3] rfl rfl (by decide) rfl hN58
 refine vm rfl rfl (RL.val (O.ext rfl rfl) rfl (RL.val (O.ext rfl rfl) rfl (va rfl rfl (va rfl rfl (nt hQ53 ?_)))))
 refine sr fun Q70 hQ70 => ?_
 refine vm rfl rfl (RL.val (O.loadN (cs := (y45.cs)) ag44 rfl (Cs.addsN [] ((hM.bx (i := 0) rfl)) rfl)) rfl ?_)
 refine Xx hF fun y71 hx72 hF => ?_
 refine RL.call Tryz.func16 bd16 rfl rfl (Yp _ _ _ y55.2.2 _ _ _ _ _ (hM.lent [1, 2, 3, 4] rfl (by decide)) y45 0 3 _ hx72) fun v w73 hv => ?_
 obtain ⟨g75, A77, c78, A80, c81, A83, c84, rfl, hN74⟩ := hv
 replace hM := hM.callL [1, 2, 3, 4] [0, 5] rfl rfl (by decide) rfl hN74
 refine vm rfl rfl (RL.val (O.ext rfl rfl) rfl (RL.val (O.ext rfl rfl) rfl (va rfl rfl (va rfl rfl (nt hQ70 ?_)))))
 refine sr fun Q86 hQ86 => ?_
 refine vm rfl rfl ?_
 refine Xx hF fun y87 hx88 hF => ?_
 refine RL.call Tryz.func17 bd17 rfl rfl (U9 _ _ _ y71.2.2 _ _ _ _ _ (hM.lent [2, 3, 4, 5] rfl (by decide)) _ hx88) fun v w89 hv => ?_
 obtain ⟨g91, A93, c94, A96, c97, rfl, hN90⟩ := hv
 replace hM := hM.callL [2, 3, 4, 5] [0, 1, 6] rfl rfl (by decide) rfl hN90
 refine vm rfl rfl (RL.val (O.ext rfl rfl) rfl (RL.val (O.ext rfl rfl) rfl (va rfl rfl (va rfl rfl (nt hQ86 ?_)))))
 refine sr fun Q99 hQ99 => ?_
 refine vm rfl rfl ?_
 refine Xx hF fun y100 hx101 hF => ?_
 refine RL.call Tryz.func18 bd18 rfl rfl (Zz _ _ _ y87.2.2 _ _ _ _ _ (hM.lent [3, 4, 5, 6] rfl (by decide)) 8 _ hx101) fun v w102 hv => ?_
 obtain ⟨g104, A106, c107, A109, c110, A112, c113, rfl, hN103⟩ := hv
 replace hM := hM.callL [3, 4, 5, 6] [0, 1, 2] rfl rfl (by decide) rfl hN103
 refine va rfl rfl (nt hQ99 ?_)
 refine KC.cut (fun a w127 => ∃ (one126 : Bool), Kn 151 [(1, .pointer (some ⟨g39, 0, none⟩)), (3, .pointer (some ⟨g49, 0, none⟩)), (11, vB one126)] a ∧ Mem w [] w127 [.row A106 c107 140 39 (y100.2.Xf.Xp).length ((y100.2.Xf.Xp).flatMap Xt), .box g104 119 [.slice A106 (y100.2.Xf.Xp).length c107, vI y100.2.Xf.XG], .row A109 c110 62 44 (y100.2.Xh).length ((y100.2.Xh).flatMap Xn), .box g39 69 (v64 y100.2.XB :: (y100.2.Xb.cs ++ [.pointer (some ⟨g104, 0, none⟩), .slice A109 (y100.2.Xh).length c110])), .box g49 44 (y45.cs)] ∧ ZK y45 y100 one126 = some r) ?_ ?_
 ·refine KC.region (vm rfl rfl (RL.val (O.len sl55 rfl) rfl (RL.val (O.eql rfl rfl) rfl (vm rfl rfl ?_))))
  refine RL.bcase (t := 49) rfl (fun hc => ?_) (fun hc => ?_)
  ·rw [if_pos hc] at hF
   refine RL.gval rfl rfl (O.move rfl) rfl (RL.gval rfl rfl (O.len sl55 rfl) rfl (RL.gval rfl rfl (O.eql rfl rfl) rfl (RL.val (O.pickt rfl rfl) rfl (vm rfl rfl ?_))))
   refine RL.bcase (t := 54) rfl (fun hc => ?_) (fun hc => ?_)
   ·rw [if_pos hc] at hF
    refine RL.gval rfl rfl (O.move rfl) rfl (RL.gval rfl rfl (O.eql rfl rfl) rfl (RL.val (O.pickt rfl rfl) rfl (vm rfl rfl ?_)))
    refine RL.bcase (t := 58) rfl (fun hc => ?_) (fun hc => ?_)
    ·rw [if_pos hc] at hF
     refine RL.gval rfl rfl (O.move rfl) rfl (RL.val (O.pickt rfl rfl) rfl (vm rfl rfl ?_))
     refine RL.bcase (t := 61) rfl (fun hc => ?_) (fun hc => ?_)
     ·rw [if_pos hc] at hF
      refine RL.gval rfl rfl (O.move rfl) rfl (RL.gval rfl rfl (O.len sl55 rfl) rfl (RL.gval rfl rfl (O.eql rfl rfl) rfl (RL.val (O.pickt rfl rfl) rfl (vm rfl rfl ?_))))
      refine RL.bcase (t := 66) rfl (fun hc => ?_) (fun hc => ?_)
      ·rw [if_pos hc] at hF
       refine RL.gval rfl rfl (O.move rfl) rfl ?_
       refine Xx hF fun xv117 hx116 hF => ?_
       have hA115 := Rd.atN (f := Xn) (s := 44) (fun _ => rfl) (by decide) (hM.rd (i := 7) rfl) hx116
       refine RL.gval rfl rfl (O.idxA sl55 (hA115) rfl rfl) rfl (RL.gval rfl rfl (O.fldA fl62_1 (by decide) rfl) rfl ?_)
       refine RL.gval rfl rfl (O.load sc22 rfl (Cs.adds [37] (hA115).cells rfl)) rfl (RL.gval rfl rfl (O.eql rfl rfl) rfl (RL.val (O.pickt rfl rfl) rfl (vm rfl rfl ?_)))
       refine RL.bcase (t := 73) rfl (fun hc => ?_) (fun hc => ?_)
       ·rw [if_pos hc] at hF
        refine RL.gval rfl rfl (O.move rfl) rfl ?_
        refine Xx hF fun xv120 hx119 hF => ?_
        have hA118 := Rd.atN (f := Xn) (s := 44) (fun _ => rfl) (by decide) (hM.rd (i := 7) rfl) hx119
        refine RL.gval rfl rfl (O.idxA sl55 (hA118) rfl rfl) rfl (RL.gval rfl rfl (O.fldA fl62_6 (by decide) rfl) rfl ?_)
        refine RL.gval rfl rfl (O.load sc5 rfl (Cs.adds [42] (hA118).cells rfl)) rfl (RL.gval rfl rfl (O.eql rfl rfl) rfl (RL.val (O.pickt rfl rfl) rfl (va rfl rfl (RL.nil (KQ.Xy ?_)))))
        replace hM := hM.pick [5, 4, 6, 3, 0] rfl (by decide)
        exact fun a ha => ⟨(xv120.X9 == 1), ha.less (Xa rfl (Xa rfl (Xa rfl Xj))), hM, hF⟩
       rw [if_neg (Xv hc)] at hF
       refine RL.brun1 6 79 false (by kernel_rfl) ?_
       refine va rfl rfl (RL.nil (KQ.Xy ?_))
       replace hM := hM.pick [5, 4, 6, 3, 0] rfl (by decide)
       exact fun a ha => ⟨false, ha.less (Xa rfl (Xa rfl (Xa rfl Xj))), hM, hF⟩
      rw [if_neg (Xv hc)] at hF
      refine RL.brun1 13 79 false (by kernel_rfl) ?_
      refine va rfl rfl (RL.nil (KQ.Xy ?_))
      replace hM := hM.pick [5, 4, 6, 3, 0] rfl (by decide)
      exact fun a ha => ⟨false, ha.less (Xa rfl (Xa rfl (Xa rfl Xj))), hM, hF⟩
     rw [if_neg (Xv hc)] at hF
     refine RL.brun1 18 79 false (by kernel_rfl) ?_
     refine va rfl rfl (RL.nil (KQ.Xy ?_))
     replace hM := hM.pick [5, 4, 6, 3, 0] rfl (by decide)
     exact fun a ha => ⟨false, ha.less (Xa rfl (Xa rfl (Xa rfl Xj))), hM, hF⟩
    rw [if_neg (Xv hc)] at hF
    refine RL.brun1 21 79 false (by kernel_rfl) ?_
    refine va rfl rfl (RL.nil (KQ.Xy ?_))
    replace hM := hM.pick [5, 4, 6, 3, 0] rfl (by decide)
    exact fun a ha => ⟨false, ha.less (Xa rfl (Xa rfl (Xa rfl Xj))), hM, hF⟩
   rw [if_neg (Xv hc)] at hF
   refine RL.brun1 25 79 false (by kernel_rfl) ?_
   refine va rfl rfl (RL.nil (KQ.Xy ?_))
   replace hM := hM.pick [5, 4, 6, 3, 0] rfl (by decide)
   exact fun a ha => ⟨false, ha.less (Xa rfl (Xa rfl (Xa rfl Xj))), hM, hF⟩
  rw [if_neg (Xv hc)] at hF
  refine RL.brun1 30 79 false (by kernel_rfl) ?_
  refine va rfl rfl (RL.nil (KQ.Xy ?_))
  replace hM := hM.pick [5, 4, 6, 3, 0] rfl (by decide)
  exact fun a ha => ⟨false, ha.less (Xa rfl (Xa rfl (Xa rfl Xj))), hM, hF⟩
 rintro a w127 ⟨one126, ha, hM, hF⟩
 refine KC.app ha ?_
 clear ha
 unfold ZK at hF
 refine sr fun Q128 hQ128 => ?_
 refine vm rfl rfl (RL.val (O.loadN (cs := (y45.cs)) ag44 rfl (Cs.addsN [] ((hM.bx (i := 4) rfl)) rfl)) rfl ?_)
 refine Xx hF fun y129 hx130 hF => ?_
 refine RL.call Tryz.func16 bd16 rfl rfl (Yp _ _ _ y100.2 _ _ _ _ _ (hM.lent [3, 1, 0, 2] rfl (by decide)) y45 0 9 _ hx130) fun v w131 hv => ?_
 obtain ⟨g133, A135, c136, A138, c139, A141, c142, rfl, hN132⟩ := hv
 replace hM := hM.callL [3, 1, 0, 2] [4] rfl rfl (by decide) rfl hN132
 refine nt hQ128 ?_
 replace hM := hM.pick [0, 1, 2, 3, 4] rfl (by decide)
 refine sr fun Q144 hQ144 => ?_
 refine vm rfl rfl ?_
 refine Xx hF fun y145 hx146 hF => ?_
 refine RL.call Tryz.func15 bd15 rfl rfl (Vu _ 2 _ hx146) fun v w147 hv => ?_
 obtain ⟨rfl, hN148⟩ := hv
 replace hM := hM.call0 hN148
 refine Xx hF fun y149 hx150 hF => ?_
 refine RL.call Tryz.func16 bd16 rfl rfl (Yp _ _ _ y129.2.2 _ _ _ _ _ (hM.lent [1, 2, 3, 4] rfl (by decide)) y145 0 10 _ hx150) fun v w151 hv => ?_
 obtain ⟨g153, A155, c156, A158, c159, A161, c162, rfl, hN152⟩ := hv
 replace hM := hM.callL [1, 2, 3, 4] [0] rfl rfl (by decide) rfl hN152
 refine nt hQ144 ?_
 replace hM := hM.pick [0, 1, 2, 3, 4] rfl (by decide)
 refine sr fun Q164 hQ164 => ?_
 refine vm rfl rfl ?_
 refine Xx hF fun y165 hx166 hF => ?_
 refine RL.call Tryz.func15 bd15 rfl rfl (Vu _ 3 _ hx166) fun v w167 hv => ?_
 obtain ⟨rfl, hN168⟩ := hv
 replace hM := hM.call0 hN168
 refine Xx hF fun y169 hx170 hF => ?_
 refine RL.call Tryz.func16 bd16 rfl rfl (Yp _ _ _ y149.2.2 _ _ _ _ _ (hM.lent [1, 2, 3, 4] rfl (by decide)) y165 0 11 _ hx170) fun v w171 hv => ?_
 obtain ⟨g173, A175, c176, A178, c179, A181, c182, rfl, hN172⟩ := hv
 replace hM := hM.callL [1, 2, 3, 4] [0] rfl rfl (by decide) rfl hN172
 refine vm rfl rfl (RL.val (O.ext rfl rfl) rfl (RL.val (O.ext rfl rfl) rfl (va rfl rfl (va rfl rfl (nt hQ164 ?_)))))
 refine KC.cut (fun a w195 => ∃ (two194 : Bool), Kn 151 [(1, .pointer (some ⟨g39, 0, none⟩)), (11, vB one126), (14, vB two194)] a ∧ Mem w [] w195 [.row A175 c176 140 39 (y169.2.2.Xf.Xp).length ((y169.2.2.Xf.Xp).flatMap Xt), .box g173 119 [.slice A175 (y169.2.2.Xf.Xp).length c176, vI y169.2.2.Xf.XG], .row A178 c179 62 44 (y169.2.2.Xh).length ((y169.2.2.Xh).flatMap Xn), .box g39 69 (v64 y169.2.2.XB :: (y169.2.2.Xb.cs ++ [.pointer (some ⟨g173, 0, none⟩), .slice A178 (y169.2.2.Xh).length c179]))] ∧ K8 one126 y169 two194 = some r) ?_ ?_
 ·replace hM := hM.drewN 1
  refine KC.draw [] [] [] [0, 1, 2, 3, 4, 6, 8, 10, 11, 12, 13, 15, 17, 18, 19] (.ofList [0, 1, 2, 3, 4, 5, 6, 7, 8, 9, 10, 11, 12, 13, 14, 15, 16, 17, 18, 19]) moP (by kernel_rfl) ?_
  refine RD.p rfl rfl rfl rfl (fun w' => O.move rfl) ?_
  refine RD.p rfl rfl rfl rfl (fun w' => O.len sl55 rfl) ?_
  refine RD.p rfl rfl rfl rfl (fun w' => O.eql rfl rfl) ?_
  refine RD.p rfl rfl rfl rfl (fun w' => O.move rfl) ?_
  refine RD.bcase (t := 95) rfl (fun hc => ?_) (fun hc => ?_)
  ·rw [if_pos hc] at hF
   refine RD.gp rfl rfl rfl rfl rfl rfl (fun w' => O.move rfl) ?_
   refine Xx hF fun xv186 hx185 hF => ?_
   have hA184 := Rd.atN (f := Xn) (s := 44) (fun _ => rfl) (by decide) (hM.rd (i := 5) rfl) hx185
   refine RD.gq rfl rfl rfl rfl rfl rfl (fun w' hf => O.idxA sl55 (hA184.fut hf) rfl rfl) ?_
   refine RD.gp rfl rfl rfl rfl rfl rfl (fun w' => O.fldA fl62_0 (by decide) rfl) ?_
   refine RD.gq rfl rfl rfl rfl rfl rfl (fun w' hf => O.loadN (cs := (xv186.Xo.cs)) ag42 rfl (Cs.addsN [0] (hA184.fut hf).cells rfl)) ?_
   refine RD.gp rfl rfl rfl rfl rfl rfl (fun w' => O.fldA fl44_0 (by decide) rfl) ?_
   refine RD.gq rfl rfl rfl rfl rfl rfl (fun w' hf => O.loadN (cs := (y45.Xo.cs)) ag42 rfl (Cs.addsN [0] ((hM.bx (i := 0) rfl).fut hf) rfl)) ?_
   refine RD.gp rfl rfl rfl rfl rfl rfl (fun w' => O.steq (cs := (xv186.Xo.cs)) (cs' := (y45.Xo.cs)) (by kernel_rfl) rfl rfl (Q42t xv186.Xo y45.Xo _ rfl rfl)) ?_
   refine RD.p rfl rfl rfl rfl (fun w' => O.pickt rfl rfl) ?_
   refine RD.p rfl rfl rfl rfl (fun w' => O.move rfl) ?_
   refine RD.bcase (t := 104) rfl (fun hc => ?_) (fun hc => ?_)
   ·rw [if_pos hc] at hF
    refine RD.gp rfl rfl rfl rfl rfl rfl (fun w' => O.move rfl) ?_
    refine Xx hF fun xv189 hx188 hF => ?_
    have hA187 := Rd.atN (f := Xn) (s := 44) (fun _ => rfl) (by decide) (hM.rd (i := 5) rfl) hx188
    refine RD.gq rfl rfl rfl rfl rfl rfl (fun w' hf => O.idxA sl55 (hA187.fut hf) rfl rfl) ?_
    refine RD.gp rfl rfl rfl rfl rfl rfl (fun w' => O.fldA fl62_6 (by decide) rfl) ?_
    refine RD.gq rfl rfl rfl rfl rfl rfl (fun w' hf => O.load sc5 rfl (Cs.adds [42] (hA187.fut hf).cells rfl)) ?_
    refine RD.gp rfl rfl rfl rfl rfl rfl (fun w' => O.eql rfl rfl) ?_
    refine RD.p rfl rfl rfl rfl (fun w' => O.pickt rfl rfl) ?_
    refine RD.p rfl rfl rfl rfl (fun w' => O.assign rfl) (RD.nil (KQ.Xy ?_))
    replace hM := hM.pick [3, 2, 4, 1] rfl (by decide)
    exact fun a ha => ⟨(xv189.X9 == 5), ha.less (Xa rfl (Xa rfl (Xa rfl Xj))), hM, hF⟩
   rw [if_neg (Xv hc)] at hF
   refine RD.brun1 [13, 14, 15, 16, 17, 18] 110 false (by kernel_rfl) ?_
   refine RD.p rfl rfl rfl rfl (fun w' => O.assign rfl) (RD.nil (KQ.Xy ?_))
   replace hM := hM.pick [3, 2, 4, 1] rfl (by decide)
   exact fun a ha => ⟨false, ha.less (Xa rfl (Xa rfl (Xa rfl Xj))), hM, hF⟩
  rw [if_neg (Xv hc)] at hF
  refine RD.brun1 [4, 5, 6, 7, 8, 9, 10, 11, 12, 13, 14, 15, 16, 17, 18] 110 false (by kernel_rfl) ?_
  refine RD.p rfl rfl rfl rfl (fun w' => O.assign rfl) (RD.nil (KQ.Xy ?_))
  replace hM := hM.pick [3, 2, 4, 1] rfl (by decide)
  exact fun a ha => ⟨false, ha.less (Xa rfl (Xa rfl (Xa rfl Xj))), hM, hF⟩
 rintro a w195 ⟨two194, ha, hM, hF⟩
 refine KC.app ha ?_
 clear ha
 unfold K8 at hF
 refine sr fun Q196 hQ196 => ?_
 refine vm rfl rfl ?_
 refine Xx hF fun y197 hx198 hF => ?_
 refine RL.call Tryz.func15 bd15 rfl rfl (Vu _ 2 _ hx198) fun v w199 hv => ?_
 obtain ⟨rfl, hN200⟩ := hv
 replace hM := hM.call0 hN200
 refine Xx hF fun y201 hx202 hF => ?_
 refine RL.call Tryz.func16 bd16 rfl rfl (Yp _ _ _ y169.2.2 _ _ _ _ _ (hM.lent [3, 1, 0, 2] rfl (by decide)) y197 0 12 _ hx202) fun v w203 hv => ?_
 obtain ⟨g205, A207, c208, A210, c211, A213, c214, rfl, hN204⟩ := hv
 replace hM := hM.callL [3, 1, 0, 2] [] rfl rfl (by decide) rfl hN204
 refine vm rfl rfl (RL.val (O.ext rfl rfl) rfl (RL.val (O.ext rfl rfl) rfl (va rfl rfl (va rfl rfl (nt hQ196 ?_)))))
 refine sr fun Q216 hQ216 => ?_
 refine vm rfl rfl ?_
 refine Xx hF fun y217 hx218 hF => ?_
 refine RL.call Tryz.func15 bd15 rfl rfl (Vu _ 2 _ hx218) fun v w219 hv => ?_
 obtain ⟨rfl, hN220⟩ := hv
 replace hM := hM.call0 hN220
 refine Xx hF fun y221 hx222 hF => ?_
 refine RL.call Tryz.func16 bd16 rfl rfl (Yp _ _ _ y201.2.2 _ _ _ _ _ (hM.lent [0, 1, 2, 3] rfl (by decide)) y217 0 12 _ hx222) fun v w223 hv => ?_
 obtain ⟨g225, A227, c228, A230, c231, A233, c234, rfl, hN224⟩ := hv
 replace hM := hM.callL [0, 1, 2, 3] [4] rfl rfl (by decide) rfl hN224
 refine vm rfl rfl (RL.val (O.ext rfl rfl) rfl (RL.val (O.ext rfl rfl) rfl (va rfl rfl (va rfl rfl (nt hQ216 ?_)))))
 replace hM := hM.pick [0, 5] rfl (by decide)
 refine KC.cut (fun a w243 => ∃ (t242 : Bool), Kn 151 [(0, vB t242)] a ∧ Mem w [] w243 [] ∧ Js t242 = some r) ?_ ?_
 ·refine KC.region (vm rfl rfl (vm rfl rfl ?_))
  refine RL.bcase (t := 124) rfl (fun hc => ?_) (fun hc => ?_)
  ·rw [if_pos hc] at hF
   refine RL.gval rfl rfl (O.move rfl) rfl (RL.val (O.pickt rfl rfl) rfl (vm rfl rfl ?_))
   refine RL.bcase (t := 127) rfl (fun hc => ?_) (fun hc => ?_)
   ·rw [if_pos hc] at hF
    refine RL.gval rfl rfl (O.move rfl) rfl (RL.gval rfl rfl (O.len sl55 rfl) rfl (RL.gval rfl rfl (O.eql rfl rfl) rfl (RL.val (O.pickt rfl rfl) rfl (vm rfl rfl ?_))))
    refine RL.bcase (t := 132) rfl (fun hc => ?_) (fun hc => ?_)
    ·rw [if_pos hc] at hF
     refine RL.gval rfl rfl (O.move rfl) rfl (RL.gval rfl rfl (O.len sl55 rfl) rfl (RL.gval rfl rfl (O.eql rfl rfl) rfl (RL.val (O.pickt rfl rfl) rfl (vm rfl rfl ?_))))
     refine RL.bcase (t := 137) rfl (fun hc => ?_) (fun hc => ?_)
     ·rw [if_pos hc] at hF
      refine RL.gval rfl rfl (O.move rfl) rfl ?_
      refine Xx hF fun xv238 hx237 hF => ?_
      have hA236 := Rd.atN (f := Xn) (s := 44) (fun _ => rfl) (by decide) (hM.rd (i := 1) rfl) hx237
      refine RL.gval rfl rfl (O.idxA sl55 (hA236) rfl rfl) rfl (RL.gval rfl rfl (O.fldA fl62_1 (by decide) rfl) rfl ?_)
      refine RL.gval rfl rfl (O.load sc22 rfl (Cs.adds [37] (hA236).cells rfl)) rfl (RL.gval rfl rfl (O.eql rfl rfl) rfl (RL.val (O.pickt rfl rfl) rfl (vm rfl rfl ?_)))
      refine RL.bcase (t := 144) rfl (fun hc => ?_) (fun hc => ?_)
      ·rw [if_pos hc] at hF
       refine RL.gval rfl rfl (O.move rfl) rfl ?_
       refine Xx hF fun xv241 hx240 hF => ?_
       have hA239 := Rd.atN (f := Xn) (s := 44) (fun _ => rfl) (by decide) (hM.rd (i := 1) rfl) hx240
       refine RL.gval rfl rfl (O.idxA sl55 (hA239) rfl rfl) rfl (RL.gval rfl rfl (O.fldA fl62_6 (by decide) rfl) rfl ?_)
       refine RL.gval rfl rfl (O.load sc5 rfl (Cs.adds [42] (hA239).cells rfl)) rfl (RL.gval rfl rfl (O.eql rfl rfl) rfl (RL.val (O.pickt rfl rfl) rfl (va rfl rfl (RL.nil (KQ.Xy ?_)))))
       replace hM := hM.pick [] rfl (by decide)
       exact fun a ha => ⟨(xv241.X9 == 4), ha.less (Xa rfl Xj), hM, hF⟩
      rw [if_neg (Xv hc)] at hF
      refine RL.brun1 6 150 false (by kernel_rfl) ?_
      refine va rfl rfl (RL.nil (KQ.Xy ?_))
      replace hM := hM.pick [] rfl (by decide)
      exact fun a ha => ⟨false, ha.less (Xa rfl Xj), hM, hF⟩
     rw [if_neg (Xv hc)] at hF
     refine RL.brun1 13 150 false (by kernel_rfl) ?_
     refine va rfl rfl (RL.nil (KQ.Xy ?_))
     replace hM := hM.pick [] rfl (by decide)
     exact fun a ha => ⟨false, ha.less (Xa rfl Xj), hM, hF⟩
    rw [if_neg (Xv hc)] at hF
    refine RL.brun1 18 150 false (by kernel_rfl) ?_
    refine va rfl rfl (RL.nil (KQ.Xy ?_))
    replace hM := hM.pick [] rfl (by decide)
    exact fun a ha => ⟨false, ha.less (Xa rfl Xj), hM, hF⟩
   rw [if_neg (Xv hc)] at hF
   refine RL.brun1 23 150 false (by kernel_rfl) ?_
   refine va rfl rfl (RL.nil (KQ.Xy ?_))
   replace hM := hM.pick [] rfl (by decide)
   exact fun a ha => ⟨false, ha.less (Xa rfl Xj), hM, hF⟩
  rw [if_neg (Xv hc)] at hF
  refine RL.brun1 26 150 false (by kernel_rfl) ?_
  refine va rfl rfl (RL.nil (KQ.Xy ?_))
  replace hM := hM.pick [] rfl (by decide)
  exact fun a ha => ⟨false, ha.less (Xa rfl Xj), hM, hF⟩
 rintro a w243 ⟨t242, ha, hM, hF⟩
 refine KC.app ha ?_
 clear ha
 unfold Js at hF
 refine KC.ret ?_
 have hE := Option.some.inj hF
 clear hF
 subst hE
 refine KQ.rets Tryz.results5 (RVs.cons (RV.tm rfl) RVs.nil) ?_
 exact ⟨_, rfl, rfl, hM⟩
theorem V9 (w : World) (b1 : Xg) (r : Xg) (hF : K4 b1 = some r) :
  CallsR Tryz.prog 8 [.agg (b1.cs).toArray] w (fun v w' => v = .agg (r.cs).toArray ∧ Mem w [] w' []) := by
 refine XJ Tryz.func8 rfl Tryz.ntmps8 rfl ?_
 have hM := Mem.init w
 unfold K4 at hF
 refine sr fun Q2 hQ2 => ?_
 refine RL.eff (E.box (vs := (b1.cs)) hM rfl rfl) rfl fun v w4 hv => ?_
 clear hM
 obtain ⟨g3, rfl, hM, hf⟩ := hv
 refine RL.eff (E.alloc hM ze34) rfl fun v w7 hv => ?_
 clear hM
 obtain ⟨g6, rfl, hM, hf⟩ := hv
 refine nt hQ2 ?_
 refine sr fun Q9 hQ9 => ?_
 refine RL.val (O.fldA fl24_0 (by decide) rfl) rfl ?_
 refine RL.val (O.load sc3 rfl (Cs.adds [0] ((hM.bx (i := 0) rfl)) rfl)) rfl (RL.val (O.fldA fl24_1 (by decide) rfl) rfl ?_)
 refine RL.val (O.load sc22 rfl (Cs.adds [1] ((hM.bx (i := 0) rfl)) rfl)) rfl (RL.val (O.fldA fl24_2 (by decide) rfl) rfl ?_)
 refine RL.val (O.load sc22 rfl (Cs.adds [2] ((hM.bx (i := 0) rfl)) rfl)) rfl (RL.val (O.fldA fl24_3 (by decide) rfl) rfl ?_)
 refine RL.val (O.load sc22 rfl (Cs.adds [3] ((hM.bx (i := 0) rfl)) rfl)) rfl (RL.val (O.fldA fl24_4 (by decide) rfl) rfl ?_)
 refine RL.val (O.load sc22 rfl (Cs.adds [4] ((hM.bx (i := 0) rfl)) rfl)) rfl (RL.val (O.bld (cs := (b1.cs)) bt34 rfl (by kernel_rfl)) rfl ?_)
 refine RL.effs (E.stB (j := 1) (off := 0) (vs := (b1.cs)) (cs' := (b1.cs)) hM rfl sz34 rfl (XX [] rfl) rfl rfl (One.all rfl) rfl rfl) fun w10 hM1 => ?_
 clear hM
 have hM := hM1
 clear hM1
 refine nt hQ9 (KC.ret ?_)
 have hE := Option.some.inj hF
 clear hF
 subst hE
 have hb11 := hM.bx (i := 1) rfl
 replace hM := hM.pick [] rfl (by decide)
 refine KQ.rets Tryz.results8 (RVs.cons (RV.cN (cs := (b1.cs)) rfl ag34 hb11) RVs.nil) ?_
 exact ⟨_, rfl, rfl, hM⟩
theorem XaF (w : World) (av1 : Xd) (r : Bool) (hF : UX av1 = some r) :
  CallsR Tryz.prog 85 [.agg (av1.cs).toArray] w (fun v w' => v = vB r ∧ Mem w [] w' []) := by
 refine XJ Tryz.func85 rfl Tryz.ntmps85 rfl ?_
 have hM := Mem.init w
 unfold UX at hF
 refine sr fun Q2 hQ2 => ?_
 refine RL.eff (E.box (vs := (av1.cs)) hM rfl rfl) rfl fun v w4 hv => ?_
 clear hM
 obtain ⟨g3, rfl, hM, hf⟩ := hv
 refine va rfl rfl (nt hQ2 ?_)
 refine KC.seqH fun Q6 hQ6 => ?_
 refine sr fun Q7 hQ7 => ?_
 refine va rfl rfl (nt hQ7 (KC.block ?_))
 refine KC.loop (fun k32 a w30 => ∃ (i29 : Int), Kn 18 [(1, .pointer (some ⟨g3, 0, none⟩)), (3, vI i29)] a ∧ Mem w [] w30 [.box g3 75 (av1.cs)] ∧ Jr av1 k32 i29 = some r) ?_ ?_
 ·exact fun a ha => ⟨fuel0, 4, ha.less (Xa rfl (Xa rfl Xj)), hM, hF⟩
 rintro k32 a w30 ⟨i29, ha, hM, hF⟩
 refine KC.app ha ?_
 clear ha
 cases k32 with
 | zero => exact (Yl hF).elim
 | succ k32 =>
 have hF : Ub (Jr av1 k32) av1 i29 = some r := hF
 unfold Ub at hF
 refine KC.seqH fun Q33 hQ33 => ?_
 refine sr fun Q34 hQ34 => ?_
 refine vm rfl rfl (RL.val (O.lss rfl rfl) rfl (nt hQ34 ?_))
 refine KC.cond rfl (fun hc => ?_) (fun hc => ?_)
 ·rw [if_pos hc] at hF
  refine KC.skip (KQ.thn hQ33 ?_)
  refine KC.seqH fun Q35 hQ35 => ?_
  refine KC.block ?_
  refine KC.cut (fun a w40 => ∃ (t39 : Bool), Kn 18 [(1, .pointer (some ⟨g3, 0, none⟩)), (3, vI i29), (17, vB t39)] a ∧ Mem w [] w40 [.box g3 75 (av1.cs)] ∧ Kx i29 (Jr av1 k32) t39 = some r) ?_ ?_
  ·refine KC.region (RL.val (O.fldA fl75_0 (by decide) rfl) rfl ?_)
   refine RL.val (O.load sc4 rfl (Cs.adds [0] ((hM.bx (i := 0) rfl)) rfl)) rfl (RL.val (O.not rfl) rfl (vm rfl rfl ?_))
   refine RL.bcase (t := 11) rfl (fun hc => ?_) (fun hc => ?_)
   ·rw [if_pos hc] at hF
    refine RL.gval rfl rfl (O.move rfl) rfl (RL.gval rfl rfl (O.fldA fl75_1 (by decide) rfl) rfl ?_)
    refine Xx hF fun xv37 hx36 hF => ?_
    refine RL.gval rfl rfl (O.idxP Tryz.underlying37 sz5 hx36 rfl rfl) rfl (RL.gval rfl rfl (O.load sc5 rfl (Cs.arrAt [1] ((hM.bx (i := 0) rfl)) rfl hx36)) rfl (RL.gval rfl rfl (O.neq rfl rfl) rfl (RL.val (O.pickt rfl rfl) rfl (RL.nil (KQ.Xy ?_)))))
    exact fun a ha => ⟨(xv37 != 0), ha.less (Xa rfl (Xa rfl (Xa rfl Xj))), hM, hF⟩
   rw [if_neg (Xv hc)] at hF
   refine RL.gskip rfl rfl rfl rfl (RL.gskip rfl rfl rfl rfl (RL.gskip rfl rfl rfl rfl (RL.gskip rfl rfl rfl rfl (RL.gskip rfl rfl rfl rfl (RL.val (O.pickf rfl rfl) rfl (RL.nil ?_))))))
   refine KQ.Xy ?_
   exact fun a ha => ⟨false, ha.less (Xa rfl (Xa rfl (Xa rfl Xj))), hM, hF⟩
  rintro a w40 ⟨t39, ha, hM, hF⟩
  refine KC.app ha ?_
  clear ha
  unfold Kx at hF
  refine KC.cond rfl (fun hc => ?_) (fun hc => ?_)
  ·rw [if_pos hc] at hF
   refine sr fun Q41 hQ41 => ?_
   refine va rfl rfl (nt hQ41 (KC.ret (KQ.blk_r (KQ.thr hQ35 (KQ.then_r (KQ.blk_r ?_))))))
   refine KQ.thr hQ6 ?_
   have hE := Option.some.inj hF
   clear hF
   subst hE
   replace hM := hM.pick [] rfl (by decide)
   refine KQ.rets Tryz.results85 (RVs.cons (RV.tm rfl) RVs.nil) ?_
   exact ⟨_, rfl, rfl, hM⟩
  rw [if_neg (Xv hc)] at hF
  refine KC.skip (KQ.blk_n (KQ.thn hQ35 (KC.region (vm rfl rfl (RL.val (O.add rfl rfl) rfl (va rfl rfl ?_))))))
  refine RL.nil (KQ.Xy ?_)
  exact fun a ha => ⟨k32, Nat.lt_succ_self k32, (IntKind.i64.wrap (i29 + 1)), ha.less (Xa rfl (Xa rfl Xj)), hM, hF⟩
 rw [if_neg (Xv hc)] at hF
 refine KC.exit (KQ.thx hQ33 (KQ.then_x (KQ.blk_x (KQ.thn hQ6 ?_))))
 refine sr fun Q42 hQ42 => ?_
 refine va rfl rfl (nt hQ42 (KC.ret ?_))
 have hE := Option.some.inj hF
 clear hF
 subst hE
 replace hM := hM.pick [] rfl (by decide)
 refine KQ.rets Tryz.results85 (RVs.cons (RV.tm rfl) RVs.nil) ?_
 exact ⟨_, rfl, rfl, hM⟩
theorem Xa8 (w : World) (proto1 : Int) (r : Bool) (hF : VB proto1 = some r) :
  CallsR Tryz.prog 86 [v8 proto1] w (fun v w' => v = vB r ∧ Mem w [] w' []) := by
 refine XJ Tryz.func86 rfl Tryz.ntmps86 rfl ?_
 have hM := Mem.init w
 unfold VB at hF
 refine sr fun Q2 hQ2 => ?_
 refine va rfl rfl (nt hQ2 ?_)
 refine KC.cut (fun a w4 => ∃ (t3 : Bool), Kn 9 [(2, vB t3)] a ∧ Mem w [] w4 [] ∧ Uc t3 = some r) ?_ ?_
 ·refine KC.region (vm rfl rfl (RL.val (O.eql rfl rfl) rfl (vm rfl rfl ?_)))
  refine RL.bcase (t := 5) rfl (fun hc => ?_) (fun hc => ?_)
  ·rw [if_pos hc] at hF
   refine RL.gskip rfl rfl rfl rfl (RL.gskip rfl rfl rfl rfl (RL.val (O.pickt rfl rfl) rfl (va rfl rfl (RL.nil (KQ.Xy ?_)))))
   exact fun a ha => ⟨true, ha.less (Xa rfl Xj), hM, hF⟩
  rw [if_neg (Xv hc)] at hF
  refine RL.gval rfl rfl (O.move rfl) rfl (RL.gval rfl rfl (O.eql rfl rfl) rfl (RL.val (O.pickf rfl rfl) rfl (va rfl rfl (RL.nil (KQ.Xy ?_)))))
  exact fun a ha => ⟨(proto1 == 17), ha.less (Xa rfl Xj), hM, hF⟩
 rintro a w4 ⟨t3, ha, hM, hF⟩
 refine KC.app ha ?_
 clear ha
 unfold Uc at hF
 refine KC.ret ?_
 have hE := Option.some.inj hF
 clear hF
 subst hE
 refine KQ.rets Tryz.results86 (RVs.cons (RV.tm rfl) RVs.nil) ?_
 exact ⟨_, rfl, rfl, hM⟩
theorem Xbe (w : World) (proto1 : Int) (r : Bool) (hF : VL proto1 = some r) :
  CallsR Tryz.prog 87 [v8 proto1] w (fun v w' => v = vB r ∧ Mem w [] w' []) := by
 refine XJ Tryz.func87 rfl Tryz.ntmps87 rfl ?_
 have hM := Mem.init w
 unfold VL at hF
 refine sr fun Q2 hQ2 => ?_
 refine va rfl rfl (nt hQ2 ?_)
 refine KC.cut (fun a w4 => ∃ (t3 : Bool), Kn 9 [(2, vB t3)] a ∧ Mem w [] w4 [] ∧ Uw t3 = some r) ?_ ?_
 ·refine KC.region (vm rfl rfl (RL.val (O.eql rfl rfl) rfl (vm rfl rfl ?_)))
  refine RL.bcase (t := 5) rfl (fun hc => ?_) (fun hc => ?_)
  ·rw [if_pos hc] at hF
   refine RL.gskip rfl rfl rfl rfl (RL.gskip rfl rfl rfl rfl (RL.val (O.pickt rfl rfl) rfl (va rfl rfl (RL.nil (KQ.Xy ?_)))))
   exact fun a ha => ⟨true, ha.less (Xa rfl Xj), hM, hF⟩
  rw [if_neg (Xv hc)] at hF
  refine RL.gval rfl rfl (O.move rfl) rfl (RL.gval rfl rfl (O.eql rfl rfl) rfl (RL.val (O.pickf rfl rfl) rfl (va rfl rfl (RL.nil (KQ.Xy ?_)))))
  exact fun a ha => ⟨(proto1 == 58), ha.less (Xa rfl Xj), hM, hF⟩
 rintro a w4 ⟨t3, ha, hM, hF⟩
 refine KC.app ha ?_
 clear ha
 unfold Uw at hF
 refine KC.ret ?_
 have hE := Option.some.inj hF
 clear hF
 subst hE
 refine KQ.rets Tryz.results87 (RVs.cons (RV.tm rfl) RVs.nil) ?_
 exact ⟨_, rfl, rfl, hM⟩
theorem XaG (w : World) (kv1 : XR) (r : Bool) (hF : JD kv1 = some r) :
  CallsR Tryz.prog 58 [.agg (kv1.cs).toArray] w (fun v w' => v = vB r ∧ Mem w [] w' []) := by
 refine XJ Tryz.func58 rfl Tryz.ntmps58 rfl ?_
 have hM := Mem.init w
 unfold JD at hF
 refine sr fun Q2 hQ2 => ?_
 refine RL.eff (E.box (vs := (kv1.cs)) hM rfl rfl) rfl fun v w4 hv => ?_
 clear hM
 obtain ⟨g3, rfl, hM, hf⟩ := hv
 refine va rfl rfl (nt hQ2 ?_)
 refine KC.seqH fun Q6 hQ6 => ?_
 refine KC.cut (fun a w17 => ∃ (t16 : Bool), Kn 40 [(1, .pointer (some ⟨g3, 0, none⟩)), (21, vB t16)] a ∧ Mem w [] w17 [.box g3 77 (kv1.cs)] ∧ Kw kv1 t16 = some r) ?_ ?_
 ·refine KC.region (RL.val (O.fldA fl77_0 (by decide) rfl) rfl ?_)
  refine RL.val (O.loadN (cs := (kv1.XL.cs)) ag75 rfl (Cs.addsN [0] ((hM.bx (i := 0) rfl)) rfl)) rfl ?_
  refine Xx hF fun y7 hx8 hF => ?_
  refine RL.call Tryz.func85 bd85 rfl rfl (XaF _ kv1.XL _ hx8) fun v w9 hv => ?_
  obtain ⟨rfl, hN10⟩ := hv
  replace hM := hM.call0 hN10
  refine RL.val (O.not rfl) rfl (vm rfl rfl ?_)
  refine RL.bcase (t := 7) rfl (fun hc => ?_) (fun hc => ?_)
  ·rw [if_pos hc] at hF
   refine RL.brun1 14 21 true (by kernel_rfl) ?_
   refine RL.nil (KQ.Xy ?_)
   exact fun a ha => ⟨true, ha.less (Xa rfl (Xa rfl Xj)), hM, hF⟩
  rw [if_neg (Xv hc)] at hF
  refine RL.gval rfl rfl (O.fldA fl77_1 (by decide) rfl) rfl ?_
  refine RL.gval rfl rfl (O.loadN (cs := (kv1.XN.cs)) ag75 rfl (Cs.addsN [17] ((hM.bx (i := 0) rfl)) rfl)) rfl ?_
  refine Xx hF fun y11 hx12 hF => ?_
  refine RL.gcall rfl rfl Tryz.func85 bd85 rfl rfl (XaF _ kv1.XN _ hx12) fun v w13 hv => ?_
  obtain ⟨rfl, hN14⟩ := hv
  replace hM := hM.call0 hN14
  refine RL.gval rfl rfl (O.not rfl) rfl (RL.val (O.pickf rfl rfl) rfl (vm rfl rfl ?_))
  refine RL.bcase (t := 13) rfl (fun hc => ?_) (fun hc => ?_)
  ·rw [if_pos hc] at hF
   refine RL.brun1 8 21 true (by kernel_rfl) ?_
   refine RL.nil (KQ.Xy ?_)
   exact fun a ha => ⟨true, ha.less (Xa rfl (Xa rfl Xj)), hM, hF⟩
  rw [if_neg (Xv hc)] at hF
  refine RL.gval rfl rfl (O.fldA fl77_0 (by decide) rfl) rfl ?_
  refine RL.gval rfl rfl (O.fldA fl75_0 (by decide) rfl) rfl ?_
  refine RL.gval rfl rfl (O.load sc4 rfl (Cs.adds [0, 0] ((hM.bx (i := 0) rfl)) rfl)) rfl (RL.gval rfl rfl (O.fldA fl77_1 (by decide) rfl) rfl ?_)
  refine RL.gval rfl rfl (O.fldA fl75_0 (by decide) rfl) rfl ?_
  refine RL.gval rfl rfl (O.load sc4 rfl (Cs.adds [17, 0] ((hM.bx (i := 0) rfl)) rfl)) rfl (RL.gval rfl rfl (O.neqb Tryz.underlying4 rfl rfl) rfl (RL.val (O.pickf rfl rfl) rfl (RL.nil (KQ.Xy ?_))))
  exact fun a ha => ⟨(!(kv1.XL.YQ == kv1.XN.YQ)), ha.less (Xa rfl (Xa rfl Xj)), hM, hF⟩
 rintro a w17 ⟨t16, ha, hM, hF⟩
 refine KC.app ha ?_
 clear ha
 unfold Kw at hF
 refine KC.cond rfl (fun hc => ?_) (fun hc => ?_)
 ·rw [if_pos hc] at hF
  refine sr fun Q18 hQ18 => ?_
  refine va rfl rfl (nt hQ18 (KC.ret (KQ.thr hQ6 ?_)))
  have hE := Option.some.inj hF
  clear hF
  subst hE
  replace hM := hM.pick [] rfl (by decide)
  refine KQ.rets Tryz.results58 (RVs.cons (RV.tm rfl) RVs.nil) ?_
  exact ⟨_, rfl, rfl, hM⟩
 rw [if_neg (Xv hc)] at hF
 refine KC.skip (KQ.thn hQ6 ?_)
 refine KC.cut (fun a w28 => ∃ (t27 : Bool), Kn 40 [(2, vB t27)] a ∧ Mem w [] w28 [] ∧ J6 t27 = some r) ?_ ?_
 ·refine KC.region (RL.val (O.fldA fl77_2 (by decide) rfl) rfl ?_)
  refine RL.val (O.load sc5 rfl (Cs.adds [34] ((hM.bx (i := 0) rfl)) rfl)) rfl ?_
  refine Xx hF fun y19 hx20 hF => ?_
  refine RL.call Tryz.func86 bd86 rfl rfl (Xa8 _ kv1.X2 _ hx20) fun v w21 hv => ?_
  obtain ⟨rfl, hN22⟩ := hv
  replace hM := hM.call0 hN22
  refine vm rfl rfl ?_
  refine RL.bcase (t := 25) rfl (fun hc => ?_) (fun hc => ?_)
  ·rw [if_pos hc] at hF
   refine RL.brun1 14 39 true (by kernel_rfl) ?_
   refine va rfl rfl (RL.nil (KQ.Xy ?_))
   replace hM := hM.pick [] rfl (by decide)
   exact fun a ha => ⟨true, ha.less (Xa rfl Xj), hM, hF⟩
  rw [if_neg (Xv hc)] at hF
  refine RL.gval rfl rfl (O.fldA fl77_3 (by decide) rfl) rfl ?_
  refine RL.gval rfl rfl (O.load sc40 rfl (Cs.adds [35] ((hM.bx (i := 0) rfl)) rfl)) rfl (RL.gval rfl rfl (O.eql rfl rfl) rfl (RL.gval rfl rfl (O.move rfl) rfl ?_))
  refine RL.bcase (t := 29) rfl (fun hc => ?_) (fun hc => ?_)
  ·rw [if_pos hc] at hF
   refine RL.gval rfl rfl (O.fldA fl77_2 (by decide) rfl) rfl ?_
   refine RL.gval rfl rfl (O.load sc5 rfl (Cs.adds [34] ((hM.bx (i := 0) rfl)) rfl)) rfl ?_
   refine Xx hF fun y23 hx24 hF => ?_
   refine RL.gcall rfl rfl Tryz.func87 bd87 rfl rfl (Xbe _ kv1.X2 _ hx24) fun v w25 hv => ?_
   obtain ⟨rfl, hN26⟩ := hv
   replace hM := hM.call0 hN26
   refine RL.gval rfl rfl (O.move rfl) rfl ?_
   refine RL.bcase (t := 33) rfl (fun hc => ?_) (fun hc => ?_)
   ·rw [if_pos hc] at hF
    refine RL.gskip rfl rfl rfl rfl (RL.gskip rfl rfl rfl rfl (RL.gskip rfl rfl rfl rfl (RL.gval rfl rfl (O.pickt rfl rfl) rfl (RL.gval rfl rfl (O.pickt rfl rfl) rfl (RL.val (O.pickf rfl rfl) rfl (va rfl rfl ?_))))))
    refine RL.nil (KQ.Xy ?_)
    replace hM := hM.pick [] rfl (by decide)
    exact fun a ha => ⟨true, ha.less (Xa rfl Xj), hM, hF⟩
   rw [if_neg (Xv hc)] at hF
   refine RL.gval rfl rfl (O.fldA fl77_4 (by decide) rfl) rfl ?_
   refine RL.gval rfl rfl (O.load sc40 rfl (Cs.adds [36] ((hM.bx (i := 0) rfl)) rfl)) rfl (RL.gval rfl rfl (O.eql rfl rfl) rfl (RL.gval rfl rfl (O.pickf rfl rfl) rfl (RL.gval rfl rfl (O.pickt rfl rfl) rfl (RL.val (O.pickf rfl rfl) rfl (va rfl rfl (RL.nil ?_))))))
   refine KQ.Xy ?_
   replace hM := hM.pick [] rfl (by decide)
   exact fun a ha => ⟨(kv1.X1 == 0), ha.less (Xa rfl Xj), hM, hF⟩
  rw [if_neg (Xv hc)] at hF
  refine RL.gskip rfl rfl rfl rfl (RL.gskip rfl rfl rfl rfl (RL.gskip rfl rfl rfl rfl (RL.gskip rfl rfl rfl rfl (RL.gskip' rfl rfl rfl (RL.gskip' rfl rfl rfl (RL.gskip' rfl rfl rfl ?_))))))
  refine RL.gskip rfl rfl rfl rfl (RL.gval rfl rfl (O.pickf rfl rfl) rfl (RL.val (O.pickf rfl rfl) rfl (va rfl rfl (RL.nil (KQ.Xy ?_)))))
  replace hM := hM.pick [] rfl (by decide)
  exact fun a ha => ⟨false, ha.less (Xa rfl Xj), hM, hF⟩
 rintro a w28 ⟨t27, ha, hM, hF⟩
 refine KC.app ha ?_
 clear ha
 unfold J6 at hF
 refine KC.ret ?_
 have hE := Option.some.inj hF
 clear hF
 subst hE
 refine KQ.rets Tryz.results58 (RVs.cons (RV.tm rfl) RVs.nil) ?_
 exact ⟨_, rfl, rfl, hM⟩
theorem XaS (w : World) (r : Int) (hF : Vv = some r) :
  CallsR Tryz.prog 108 [] w (fun v w' => v = v64 r ∧ Mem w [] w' []) := by
 refine XJ Tryz.func108 rfl Tryz.ntmps108 rfl ?_
 have hM := Mem.init w
 unfold Vv at hF
 refine sr fun Q1 hQ1 => ?_
 refine va rfl rfl (nt hQ1 ?_)
 refine sr fun Q2 hQ2 => ?_
 refine va rfl rfl (nt hQ2 (KC.ret ?_))
 have hE := Option.some.inj hF
 clear hF
 subst hE
 refine KQ.rets Tryz.results108 (RVs.cons (RV.tm rfl) RVs.nil) ?_
 exact ⟨_, rfl, rfl, hM⟩
theorem VO (w : World) (av1 b2 r : Int) (hF : Jt av1 b2 = some r) :
  CallsR Tryz.prog 90 [v64 av1, v64 b2] w (fun v w' => v = v64 r ∧ Mem w [] w' []) := by
 refine XJ Tryz.func90 rfl Tryz.ntmps90 rfl ?_
 have hM := Mem.init w
 unfold Jt at hF
 refine sr fun Q3 hQ3 => ?_
 refine va rfl rfl (nt hQ3 ?_)
 refine KC.seqH fun Q4 hQ4 => ?_
 refine sr fun Q5 hQ5 => ?_
 refine vm rfl rfl ?_
 refine Xx hF fun y6 hx7 hF => ?_
 refine RL.call Tryz.func108 bd108 rfl rfl (XaS _ _ hx7) fun v w8 hv => ?_
 obtain ⟨rfl, hN9⟩ := hv
 replace hM := hM.call0 hN9
 refine vm rfl rfl (RL.val (O.sub rfl rfl) rfl (RL.val (O.gtr rfl rfl) rfl (nt hQ5 ?_)))
 refine KC.cond rfl (fun hc => ?_) (fun hc => ?_)
 ·rw [if_pos hc] at hF
  refine sr fun Q10 hQ10 => ?_
  refine Xx hF fun y11 hx12 hF => ?_
  refine RL.call Tryz.func108 bd108 rfl rfl (XaS _ _ hx12) fun v w13 hv => ?_
  obtain ⟨rfl, hN14⟩ := hv
  replace hM := hM.call0 hN14
  refine va rfl rfl (nt hQ10 (KC.ret (KQ.thr hQ4 ?_)))
  have hE := Option.some.inj hF
  clear hF
  subst hE
  refine KQ.rets Tryz.results90 (RVs.cons (RV.tm rfl) RVs.nil) ?_
  exact ⟨_, rfl, rfl, hM⟩
 rw [if_neg (Xv hc)] at hF
 refine KC.skip (KQ.thn hQ4 ?_)
 refine sr fun Q15 hQ15 => ?_
 refine vm rfl rfl (vm rfl rfl (RL.val (O.add rfl rfl) rfl (va rfl rfl (nt hQ15 (KC.ret ?_)))))
 have hE := Option.some.inj hF
 clear hF
 subst hE
 refine KQ.rets Tryz.results90 (RVs.cons (RV.tm rfl) RVs.nil) ?_
 exact ⟨_, rfl, rfl, hM⟩
theorem Xaq (w : World) (g2 : Nat) (tg5 : TypeId) (cv1 : Xq) (vo4 : Value) (hL7 : Lent w [.box g2 tg5 (v64 cv1.XK :: (cv1.Xu.cs ++ [vo4]))]) (rv6 : Xi) (r : Int) (hF : ZF cv1 rv6 = some r) :
  CallsR Tryz.prog 64 [.pointer (some ⟨g2, 0, none⟩), .agg (rv6.cs).toArray] w (fun v w' => v = v64 r ∧ Mem w [some g2] w' [.box g2 tg5 (v64 cv1.XK :: (cv1.Xu.cs ++ [vo4]))]) := by
 refine XJ Tryz.func64 rfl Tryz.ntmps64 rfl ?_
 have hM : Mem w [some g2] w [.box g2 tg5 (v64 cv1.XK :: (cv1.Xu.cs ++ [vo4]))] := Mem.lendN hL7
 unfold ZF at hF
 refine sr fun Q8 hQ8 => ?_
 refine RL.eff (E.box (vs := (rv6.cs)) hM rfl rfl) rfl fun v w10 hv => ?_
 clear hM
 obtain ⟨g9, rfl, hM, hf⟩ := hv
 refine va rfl rfl (nt hQ8 ?_)
 refine KC.seqH fun Q12 hQ12 => ?_
 replace hM := hM.drewN 1
 refine KC.draw [] [] [7] [0, 2, 3, 4, 5, 8] (.ofList [0, 1, 2, 3, 4, 5, 6, 7, 8]) moP (by kernel_rfl) ?_
 refine RD.p rfl rfl rfl rfl (fun w' => O.fldA fl89_4 (by decide) rfl) ?_
 refine RD.q rfl rfl rfl rfl (fun w' hf => O.load sc22 rfl (Cs.adds [40] ((hM.bx (i := 1) rfl).fut hf) rfl)) ?_
 refine RD.p rfl rfl rfl rfl (fun w' => O.move rfl) ?_
 refine RD.p rfl rfl rfl rfl (fun w' => O.nilp rfl) ?_
 refine RD.p rfl rfl rfl rfl (fun w' => O.fldA fl72_1 (by decide) rfl) ?_
 refine RD.p rfl rfl rfl rfl (fun w' => O.fldA fl34_1 (by decide) rfl) ?_
 refine RD.q rfl rfl rfl rfl (fun w' hf => O.load sc22 rfl (Cs.adds [1, 1] ((hM.bx (i := 0) rfl).fut hf) rfl)) ?_
 refine Xx hF fun y13 hx14 hF => ?_
 refine RD.mcall rfl rfl trivial Tryz.func90 bd90 rfl rfl (VO _ rv6.Ya cv1.Xu.XI _ hx14) fun v w15 hv => ?_
 obtain ⟨rfl, hN16⟩ := hv
 refine ⟨fun _ => hN16.fut, ?_⟩
 replace hM := hM.call0 hN16
 refine RD.p rfl rfl rfl rfl (fun w' => O.assign rfl) (RD.nil (KQ.thn hQ12 (KC.ret ?_)))
 have hE := Option.some.inj hF
 clear hF
 subst hE
 replace hM := hM.pick [0] rfl (by decide)
 refine KQ.rets Tryz.results64 (RVs.cons (RV.tm rfl) RVs.nil) ?_
 exact ⟨_, rfl, rfl, hM⟩
theorem VN (w : World) (g2 : Nat) (tg5 : TypeId) (cv1 : Xq) (vo4 : Value) (hL7 : Lent w [.box g2 tg5 (v64 cv1.XK :: (cv1.Xu.cs ++ [vo4]))]) (rv6 : Xi) (r : Int) (hF : ZF cv1 rv6 = some r) :
  CallsR Tryz.prog 64 [.pointer (some ⟨g2, 0, none⟩), .agg (rv6.cs).toArray] w (fun v w' => v = v64 r ∧ Mem w [] w' []) := Calls.mono (Xaq w g2 tg5 cv1 vo4 hL7 rv6 r hF) fun e w1 ⟨v, he, hv, hm⟩ => ⟨v, he, hv, hm.still hL7 rfl rfl⟩
theorem Xaz (w : World) (g2 : Nat) (tg5 : TypeId) (cv1 : Xq) (vo4 : Value) (hL7 : Lent w [.box g2 tg5 (v64 cv1.XK :: (cv1.Xu.cs ++ [vo4]))]) (rv6 : Xi) (r : Int) (hF : Zc cv1 rv6 = some r) :
  CallsR Tryz.prog 63 [.pointer (some ⟨g2, 0, none⟩), .agg (rv6.cs).toArray] w (fun v w' => v = v64 r ∧ Mem w [some g2] w' [.box g2 tg5 (v64 cv1.XK :: (cv1.Xu.cs ++ [vo4]))]) := by
 refine XJ Tryz.func63 rfl Tryz.ntmps63 rfl ?_
 have hM : Mem w [some g2] w [.box g2 tg5 (v64 cv1.XK :: (cv1.Xu.cs ++ [vo4]))] := Mem.lendN hL7
 unfold Zc at hF
 refine sr fun Q8 hQ8 => ?_
 refine RL.eff (E.box (vs := (rv6.cs)) hM rfl rfl) rfl fun v w10 hv => ?_
 clear hM
 obtain ⟨g9, rfl, hM, hf⟩ := hv
 refine va rfl rfl (nt hQ8 ?_)
 refine KC.seqH fun Q12 hQ12 => ?_
 replace hM := hM.drewN 1
 refine KC.draw [] [] [2, 10] [0, 3, 5, 6, 7, 8, 11, 12] (.ofList [0, 1, 3, 4, 5, 6, 7, 8, 9, 2, 10, 11, 12]) moP (by kernel_rfl) ?_
 refine RD.p rfl rfl rfl rfl (fun w' => O.move rfl) ?_
 refine RD.q rfl rfl rfl rfl (fun w' hf => O.loadN (cs := (rv6.cs)) ag89 rfl (Cs.addsN [] ((hM.bx (i := 1) rfl).fut hf) rfl)) ?_
 refine RD.p rfl rfl rfl rfl (fun w' => O.fldA fl89_3 (by decide) rfl) ?_
 refine RD.q rfl rfl rfl rfl (fun w' hf => O.load sc22 rfl (Cs.adds [39] ((hM.bx (i := 1) rfl).fut hf) rfl)) ?_
 refine RD.p rfl rfl rfl rfl (fun w' => O.move rfl) ?_
 refine RD.p rfl rfl rfl rfl (fun w' => O.nilp rfl) ?_
 refine RD.p rfl rfl rfl rfl (fun w' => O.fldA fl72_1 (by decide) rfl) ?_
 refine RD.p rfl rfl rfl rfl (fun w' => O.fldA fl34_2 (by decide) rfl) ?_
 refine RD.q rfl rfl rfl rfl (fun w' hf => O.load sc22 rfl (Cs.adds [1, 2] ((hM.bx (i := 0) rfl).fut hf) rfl)) ?_
 refine Xx hF fun y13 hx14 hF => ?_
 refine RD.mcall rfl rfl trivial Tryz.func64 bd64 rfl rfl (VN _ _ _ cv1 _ (hM.lent [0] rfl (by decide)) rv6 _ hx14) fun v w15 hv => ?_
 obtain ⟨rfl, hN16⟩ := hv
 refine ⟨fun _ => hN16.fut, ?_⟩
 replace hM := hM.call0 hN16
 refine Xx hF fun y17 hx18 hF => ?_
 refine RD.mcall rfl rfl trivial Tryz.func90 bd90 rfl rfl (VO _ rv6.X4 cv1.Xu.XA _ hx18) fun v w19 hv => ?_
 obtain ⟨rfl, hN20⟩ := hv
 refine ⟨fun _ => hN20.fut, ?_⟩
 replace hM := hM.call0 hN20
 refine RD.p rfl rfl rfl rfl (fun w' => O.min2 rfl rfl) ?_
 refine RD.p rfl rfl rfl rfl (fun w' => O.assign rfl) (RD.nil (KQ.thn hQ12 (KC.ret ?_)))
 have hE := Option.some.inj hF
 clear hF
 subst hE
 replace hM := hM.pick [0] rfl (by decide)
 refine KQ.rets Tryz.results63 (RVs.cons (RV.tm rfl) RVs.nil) ?_
 exact ⟨_, rfl, rfl, hM⟩
theorem Vi (w : World) (g2 : Nat) (tg5 : TypeId) (cv1 : Xq) (vo4 : Value) (hL7 : Lent w [.box g2 tg5 (v64 cv1.XK :: (cv1.Xu.cs ++ [vo4]))]) (rv6 : Xi) (r : Int) (hF : Zc cv1 rv6 = some r) :
  CallsR Tryz.prog 63 [.pointer (some ⟨g2, 0, none⟩), .agg (rv6.cs).toArray] w (fun v w' => v = v64 r ∧ Mem w [] w' []) := Calls.mono (Xaz w g2 tg5 cv1 vo4 hL7 rv6 r hF) fun e w1 ⟨v, he, hv, hm⟩ => ⟨v, he, hv, hm.still hL7 rfl rfl⟩
end Go.Proofs.YtkpnocgfhipidaaGreat
