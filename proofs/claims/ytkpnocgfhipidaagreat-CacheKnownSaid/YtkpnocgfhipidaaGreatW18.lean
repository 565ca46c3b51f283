/- Printed by a program of this claim: each call returns what the plain function of its name gives. -/
import Derived.Test.YtkpnocgfhipidaaGreatW1
import Derived.Test.YtkpnocgfhipidaaGreatW2
import Derived.Test.YtkpnocgfhipidaaGreatW5
import Derived.Test.YtkpnocgfhipidaaGreatW6
import Derived.Test.YtkpnocgfhipidaaGreatW8
import Derived.Test.YtkpnocgfhipidaaGreatW9
import Derived.Test.YtkpnocgfhipidaaGreatW13
import Derived.Test.YtkpnocgfhipidaaGreatW14
import Derived.Test.YtkpnocgfhipidaaGreatW17
set_option linter.unusedVariables false
set_option maxRecDepth 100000
set_option maxHeartbeats 40000000
namespace Go.Proofs.YtkpnocgfhipidaaGreat
open Go Go.Ox Go.RowKit
theorem VM (w : World) (b1 : Xg) (A3 : Option Addr) (c4 : Nat) (lv2 : List XF) (hr5 : Rd w A3 c4 43 lv2.length (lv2.flatMap Zw)) (r : Bool) (hF : Jf b1 lv2 = some r) :
  CallsR Tryz.prog 12 [.agg (b1.cs).toArray, .slice A3 (lv2).length c4] w (fun v w' => v = vB r ∧ Mem w [] w' []) := by
 refine XJ Tryz.func12 rfl Tryz.ntmps12 rfl ?_
 have hM := Mem.init w
 unfold Jf at hF
 refine sr fun Q6 hQ6 => ?_
 refine RL.eff (E.box (vs := (b1.cs)) hM rfl rfl) rfl fun v w8 hv => ?_
 clear hM
 obtain ⟨g7, rfl, hM, hf⟩ := hv
 refine va rfl rfl (nt hQ6 ?_)
 refine KC.seqH fun Q10 hQ10 => ?_
 refine sr fun Q11 hQ11 => ?_
 refine vm rfl rfl (RL.val (O.len sl25 rfl) rfl (RL.val (O.gtr rfl rfl) rfl (nt hQ11 ?_)))
 refine KC.cond rfl (fun hc => ?_) (fun hc => ?_)
 ·rw [if_pos hc] at hF
  refine sr fun Q12 hQ12 => ?_
  refine Xx hF fun y13 hx14 hF => ?_
  refine RL.call Tryz.func5 bd5 rfl rfl (YR _ _ hx14) fun v w15 hv => ?_
  obtain ⟨rfl, hN16⟩ := hv
  replace hM := hM.call0 hN16
  refine va rfl rfl (nt hQ12 (KC.ret (KQ.thr hQ10 ?_)))
  have hE := Option.some.inj hF
  clear hF
  subst hE
  replace hM := hM.pick [] rfl (by decide)
  refine KQ.rets Tryz.results12 (RVs.cons (RV.tm rfl) RVs.nil) ?_
  exact ⟨_, rfl, rfl, hM⟩
 rw [if_neg (Xv hc)] at hF
 refine KC.skip (KQ.thn hQ10 ?_)
 refine sr fun Q17 hQ17 => ?_
 refine RL.val (O.loadN (cs := (b1.cs)) ag24 rfl (Cs.addsN [] ((hM.bx (i := 0) rfl)) rfl)) rfl (RL.icall Tryz.func6 bd6 rfl rfl rfl Tryz.ntmps6 rfl ?_)
 refine sr fun Q18 hQ18 => ?_
 refine RL.eff (E.box (vs := (b1.cs)) hM rfl rfl) rfl fun v w20 hv => ?_
 clear hM
 obtain ⟨g19, rfl, hM, hf⟩ := hv
 refine va rfl rfl (va rfl rfl (nt hQ18 ?_))
 refine KC.seqH fun Q22 hQ22 => ?_
 refine KC.cut (fun a w26 => ∃ (t24 : Bool), Kn 53 [(0, v64 0), (3, .pointer (some ⟨g19, 0, none⟩)), (35, vB t24)] a ∧ Mem w [] w26 [.box g19 24 (b1.cs), .box g7 24 (b1.cs)] ∧ YA b1 lv2 t24 = some r) ?_ ?_
 ·refine KC.region (RL.val (O.fldA fl24_0 (by decide) rfl) rfl ?_)
  refine RL.val (O.load sc3 rfl (Cs.adds [0] ((hM.bx (i := 1) rfl)) rfl)) rfl (RL.val (O.lss rfl rfl) rfl (vm rfl rfl ?_))
  refine RL.bcase (t := 11) rfl (fun hc => ?_) (fun hc => ?_)
  ·rw [if_pos hc] at hF
   refine RL.brun1 24 35 true (by kernel_rfl) ?_
   refine RL.nil (KQ.Xy ?_)
   replace hM := hM.pick [1, 0] rfl (by decide)
   exact fun a ha => ⟨true, ha.less (Xa rfl (Xa rfl (Xa rfl Xj))), hM, hF⟩
  rw [if_neg (Xv hc)] at hF
  refine RL.gval rfl rfl (O.fldA fl24_0 (by decide) rfl) rfl ?_
  refine RL.gval rfl rfl (O.load sc3 rfl (Cs.adds [0] ((hM.bx (i := 1) rfl)) rfl)) rfl (RL.gval rfl rfl (O.gtr rfl rfl) rfl (RL.val (O.pickf rfl rfl) rfl (vm rfl rfl ?_)))
  refine RL.bcase (t := 16) rfl (fun hc => ?_) (fun hc => ?_)
  ·rw [if_pos hc] at hF
   refine RL.brun1 19 35 true (by kernel_rfl) ?_
   refine RL.nil (KQ.Xy ?_)
   replace hM := hM.pick [1, 0] rfl (by decide)
   exact fun a ha => ⟨true, ha.less (Xa rfl (Xa rfl (Xa rfl Xj))), hM, hF⟩
  rw [if_neg (Xv hc)] at hF
  refine RL.gval rfl rfl (O.fldA fl24_1 (by decide) rfl) rfl ?_
  refine RL.gval rfl rfl (O.load sc22 rfl (Cs.adds [1] ((hM.bx (i := 1) rfl)) rfl)) rfl (RL.gval rfl rfl (O.eql rfl rfl) rfl (RL.val (O.pickf rfl rfl) rfl (vm rfl rfl ?_)))
  refine RL.bcase (t := 21) rfl (fun hc => ?_) (fun hc => ?_)
  ·rw [if_pos hc] at hF
   refine RL.brun1 14 35 true (by kernel_rfl) ?_
   refine RL.nil (KQ.Xy ?_)
   replace hM := hM.pick [1, 0] rfl (by decide)
   exact fun a ha => ⟨true, ha.less (Xa rfl (Xa rfl (Xa rfl Xj))), hM, hF⟩
  rw [if_neg (Xv hc)] at hF
  refine RL.gval rfl rfl (O.fldA fl24_2 (by decide) rfl) rfl ?_
  refine RL.gval rfl rfl (O.load sc22 rfl (Cs.adds [2] ((hM.bx (i := 1) rfl)) rfl)) rfl (RL.gval rfl rfl (O.eql rfl rfl) rfl (RL.val (O.pickf rfl rfl) rfl (vm rfl rfl ?_)))
  refine RL.bcase (t := 26) rfl (fun hc => ?_) (fun hc => ?_)
  ·rw [if_pos hc] at hF
   refine RL.brun1 9 35 true (by kernel_rfl) ?_
   refine RL.nil (KQ.Xy ?_)
   replace hM := hM.pick [1, 0] rfl (by decide)
   exact fun a ha => ⟨true, ha.less (Xa rfl (Xa rfl (Xa rfl Xj))), hM, hF⟩
  rw [if_neg (Xv hc)] at hF
  refine RL.gval rfl rfl (O.fldA fl24_3 (by decide) rfl) rfl ?_
  refine RL.gval rfl rfl (O.load sc22 rfl (Cs.adds [3] ((hM.bx (i := 1) rfl)) rfl)) rfl (RL.gval rfl rfl (O.eql rfl rfl) rfl (RL.val (O.pickf rfl rfl) rfl (vm rfl rfl ?_)))
  refine RL.bcase (t := 31) rfl (fun hc => ?_) (fun hc => ?_)
  ·rw [if_pos hc] at hF
   refine RL.brun1 4 35 true (by kernel_rfl) ?_
   refine RL.nil (KQ.Xy ?_)
   replace hM := hM.pick [1, 0] rfl (by decide)
   exact fun a ha => ⟨true, ha.less (Xa rfl (Xa rfl (Xa rfl Xj))), hM, hF⟩
  rw [if_neg (Xv hc)] at hF
  refine RL.gval rfl rfl (O.fldA fl24_4 (by decide) rfl) rfl ?_
  refine RL.gval rfl rfl (O.load sc22 rfl (Cs.adds [4] ((hM.bx (i := 1) rfl)) rfl)) rfl (RL.gval rfl rfl (O.eql rfl rfl) rfl (RL.val (O.pickf rfl rfl) rfl (RL.nil (KQ.Xy ?_))))
  replace hM := hM.pick [1, 0] rfl (by decide)
  exact fun a ha => ⟨(b1.Xr == 0), ha.less (Xa rfl (Xa rfl (Xa rfl Xj))), hM, hF⟩
 rintro a w26 ⟨t24, ha, hM, hF⟩
 refine KC.app ha ?_
 clear ha
 unfold YA at hF
 refine KC.cond rfl (fun hc => ?_) (fun hc => ?_)
 ·rw [if_pos hc] at hF
  refine sr fun Q27 hQ27 => ?_
  refine va rfl rfl (va rfl rfl (nt hQ27 (KC.ret (KQ.thr hQ22 (KQ.rets Tryz.results6 (RVs.cons (RV.tm rfl) (RVs.cons (RV.tm rfl) RVs.nil)) (⟨.tuple #[.pointer none, vI 2], rfl, ?_⟩))))))
  refine vm rfl rfl (RL.val (O.ext rfl rfl) rfl (RL.val (O.ext rfl rfl) rfl (va rfl rfl (va rfl rfl (nt hQ17 ?_)))))
  refine KC.seqH fun Q28 hQ28 => ?_
  refine sr fun Q29 hQ29 => ?_
  refine vm rfl rfl (RL.val (O.neq rfl rfl) rfl (nt hQ29 (KC.condT rfl ?_)))
  refine sr fun Q30 hQ30 => ?_
  refine Xx hF fun y31 hx32 hF => ?_
  refine RL.call Tryz.func5 bd5 rfl rfl (YR _ _ hx32) fun v w33 hv => ?_
  obtain ⟨rfl, hN34⟩ := hv
  replace hM := hM.call0 hN34
  refine va rfl rfl (nt hQ30 (KC.ret (KQ.thr hQ28 ?_)))
  have hE := Option.some.inj hF
  clear hF
  subst hE
  replace hM := hM.pick [] rfl (by decide)
  refine KQ.rets Tryz.results12 (RVs.cons (RV.tm rfl) RVs.nil) ?_
  exact ⟨_, rfl, rfl, hM⟩
 rw [if_neg (Xv hc)] at hF
 refine KC.skip (KQ.thn hQ22 ?_)
 refine sr fun Q35 hQ35 => ?_
 refine RL.val (O.fldA fl24_0 (by decide) rfl) rfl ?_
 refine RL.val (O.load sc3 rfl (Cs.adds [0] ((hM.bx (i := 0) rfl)) rfl)) rfl (RL.val (O.conv un3 Tryz.underlying67 rfl) rfl ?_)
 refine Xx hF fun y36 hx37 hF => ?_
 refine RL.call Tryz.func20 bd20 rfl rfl (Kk _ (IntKind.u64.wrap b1.Xz) _ hx37) fun v w38 hv => ?_
 obtain ⟨rfl, hN39⟩ := hv
 replace hM := hM.call0 hN39
 refine XZ hF fun hq40 hF => ?_
 refine RL.val (O.shl rfl rfl (of_decide_eq_true hq40)) rfl (RL.icall Tryz.func19 bd19 rfl rfl rfl Tryz.ntmps19 rfl ?_)
 refine sr fun Q41 hQ41 => ?_
 refine va rfl rfl (va rfl rfl (nt hQ41 ?_))
 refine KC.seqH fun Q42 hQ42 => ?_
 refine KC.cut (fun a w46 => ∃ (ok43 : Bool), Kn 21 [(0, vI (Ox.shl .i64 1 y36)), (16, vB ok43)] a ∧ Mem w [] w46 [.box g7 24 (b1.cs), .box g19 24 (b1.cs)] ∧ Zn b1 lv2 y36 ok43 = some r) ?_ ?_
 ·refine KC.region (vm rfl rfl (RL.val (O.lss rfl rfl) rfl (vm rfl rfl ?_)))
  refine RL.bcase (t := 6) rfl (fun hc => ?_) (fun hc => ?_)
  ·rw [if_pos hc] at hF
   refine RL.brun1 10 16 true (by kernel_rfl) ?_
   refine RL.nil (KQ.Xy ?_)
   replace hM := hM.pick [1, 0] rfl (by decide)
   exact fun a ha => ⟨true, ha.less (Xa rfl (Xa rfl Xj)), hM, hF⟩
  rw [if_neg (Xv hc)] at hF
  refine RL.gval rfl rfl (O.move rfl) rfl (RL.gval rfl rfl (O.gtr rfl rfl) rfl (RL.val (O.pickf rfl rfl) rfl (vm rfl rfl ?_)))
  refine RL.bcase (t := 10) rfl (fun hc => ?_) (fun hc => ?_)
  ·rw [if_pos hc] at hF
   refine RL.brun1 6 16 true (by kernel_rfl) ?_
   refine RL.nil (KQ.Xy ?_)
   replace hM := hM.pick [1, 0] rfl (by decide)
   exact fun a ha => ⟨true, ha.less (Xa rfl (Xa rfl Xj)), hM, hF⟩
  rw [if_neg (Xv hc)] at hF
  refine RL.gval rfl rfl (O.move rfl) rfl (RL.gval rfl rfl (O.move rfl) rfl (RL.gval rfl rfl (O.sub rfl rfl) rfl (RL.gval rfl rfl (O.and rfl rfl) rfl (RL.gval rfl rfl (O.neq rfl rfl) rfl (RL.val (O.pickf rfl rfl) rfl (RL.nil ?_))))))
  refine KQ.Xy ?_
  replace hM := hM.pick [1, 0] rfl (by decide)
  exact fun a ha => ⟨((bits .and .i64 (Ox.shl .i64 1 y36) (IntKind.i64.wrap ((Ox.shl .i64 1 y36) - 1))) != 0), ha.less (Xa rfl (Xa rfl Xj)), hM, hF⟩
 rintro a w46 ⟨ok43, ha, hM, hF⟩
 refine KC.app ha ?_
 clear ha
 unfold Zn at hF
 refine KC.cond rfl (fun hc => ?_) (fun hc => ?_)
 ·rw [if_pos hc] at hF
  refine sr fun Q47 hQ47 => ?_
  refine va rfl rfl (va rfl rfl (nt hQ47 (KC.ret (KQ.thr hQ42 (KQ.rets Tryz.results19 (RVs.cons (RV.tm rfl) (RVs.cons (RV.tm rfl) RVs.nil)) (⟨.tuple #[.pointer none, vI 2], rfl, ?_⟩))))))
  refine vm rfl rfl (RL.val (O.ext rfl rfl) rfl (RL.val (O.ext rfl rfl) rfl (va rfl rfl (va rfl rfl (nt hQ35 ?_)))))
  refine KC.seqH fun Q48 hQ48 => ?_
  refine sr fun Q49 hQ49 => ?_
  refine vm rfl rfl (RL.val (O.neq rfl rfl) rfl (nt hQ49 (KC.condT rfl ?_)))
  refine sr fun Q50 hQ50 => ?_
  refine vm rfl rfl (va rfl rfl (va rfl rfl (nt hQ50 (KC.ret (KQ.thr hQ48 (KQ.rets Tryz.results6 (RVs.cons (RV.tm rfl) (RVs.cons (RV.tm rfl) RVs.nil)) ?_))))))
  refine ⟨.tuple #[.pointer none, vI 2], rfl, ?_⟩
  refine vm rfl rfl (RL.val (O.ext rfl rfl) rfl (RL.val (O.ext rfl rfl) rfl (va rfl rfl (va rfl rfl (nt hQ17 ?_)))))
  refine KC.seqH fun Q51 hQ51 => ?_
  refine sr fun Q52 hQ52 => ?_
  refine vm rfl rfl (RL.val (O.neq rfl rfl) rfl (nt hQ52 (KC.condT rfl ?_)))
  refine sr fun Q53 hQ53 => ?_
  refine Xx hF fun y54 hx55 hF => ?_
  refine RL.call Tryz.func5 bd5 rfl rfl (YR _ _ hx55) fun v w56 hv => ?_
  obtain ⟨rfl, hN57⟩ := hv
  replace hM := hM.call0 hN57
  refine va rfl rfl (nt hQ53 (KC.ret (KQ.thr hQ51 ?_)))
  have hE := Option.some.inj hF
  clear hF
  subst hE
  replace hM := hM.pick [] rfl (by decide)
  refine KQ.rets Tryz.results12 (RVs.cons (RV.tm rfl) RVs.nil) ?_
  exact ⟨_, rfl, rfl, hM⟩
 rw [if_neg (Xv hc)] at hF
 refine KC.skip (KQ.thn hQ42 ?_)
 refine sr fun Q58 hQ58 => ?_
 refine vm rfl rfl ?_
 refine XZ hF fun hq61 hF => ?_
 refine RL.eff (E.mks (enc := Xt) (zr := (Xm.mk false (Xe.mk (Xd.mk false (List.replicate 16 0)) (Xd.mk false (List.replicate 16 0)) 0 0 0) 0)) hM sl117 ze140 rfl rfl (fun _ => rfl) rfl rfl rfl (of_decide_eq_true hq61)) rfl fun v w60 hv => ?_
 clear hM
 obtain ⟨A59, rfl, hM, hf⟩ := hv
 refine RL.val (O.bld (cs := [.slice A59 ((List.replicate (Int.toNat (Ox.shl .i64 1 y36)) ((Xm.mk false (Xe.mk (Xd.mk false (List.replicate 16 0)) (Xd.mk false (List.replicate 16 0)) 0 0 0) 0) : Xm))).length (Int.toNat (Ox.shl .i64 1 y36)), vI 0]) bt119 rfl (by kernel_rfl)) rfl ?_
 refine RL.eff (E.box (vs := [.slice A59 ((List.replicate (Int.toNat (Ox.shl .i64 1 y36)) ((Xm.mk false (Xe.mk (Xd.mk false (List.replicate 16 0)) (Xd.mk false (List.replicate 16 0)) 0 0 0) 0) : Xm))).length (Int.toNat (Ox.shl .i64 1 y36)), vI 0]) hM rfl rfl) rfl fun v w64 hv => ?_
 clear hM
 obtain ⟨g63, rfl, hM, hf⟩ := hv
 refine va rfl rfl (va rfl rfl (nt hQ58 (KC.ret (KQ.rets Tryz.results19 (RVs.cons (RV.tm rfl) (RVs.cons (RV.tm rfl) RVs.nil)) (⟨.tuple #[.pointer (some ⟨g63, 0, none⟩), vI 0], rfl, ?_⟩)))))
 refine vm rfl rfl (RL.val (O.ext rfl rfl) rfl (RL.val (O.ext rfl rfl) rfl (va rfl rfl (va rfl rfl (nt hQ35 ?_)))))
 refine KC.seqH fun Q66 hQ66 => ?_
 refine sr fun Q67 hQ67 => ?_
 refine vm rfl rfl (RL.val (O.neq rfl rfl) rfl (nt hQ67 (KC.condF rfl (KC.skip (KQ.thn hQ66 ?_)))))
 refine sr fun Q68 hQ68 => ?_
 refine vm rfl rfl (RL.val (O.loadN (cs := (b1.cs)) ag24 rfl (Cs.addsN [] ((hM.bx (i := 1) rfl)) rfl)) rfl (vm rfl rfl (RL.val (O.bld (cs := (v64 0 :: (b1.cs ++ [.pointer (some ⟨g63, 0, none⟩), .slice none 0 0]))) bt69 rfl (by kernel_rfl)) rfl ?_)))
 refine RL.eff (E.box (vs := (v64 0 :: (b1.cs ++ [.pointer (some ⟨g63, 0, none⟩), .slice none 0 0]))) hM rfl rfl) rfl fun v w70 hv => ?_
 clear hM
 obtain ⟨g69, rfl, hM, hf⟩ := hv
 refine va rfl rfl (va rfl rfl (nt hQ68 (KC.ret (KQ.rets Tryz.results6 (RVs.cons (RV.tm rfl) (RVs.cons (RV.tm rfl) RVs.nil)) (⟨.tuple #[.pointer (some ⟨g69, 0, none⟩), vI 0], rfl, ?_⟩)))))
 refine vm rfl rfl (RL.val (O.ext rfl rfl) rfl (RL.val (O.ext rfl rfl) rfl (va rfl rfl (va rfl rfl (nt hQ17 ?_)))))
 replace hM := hM.pick [0, 2, 3, 4] rfl (by decide)
 refine KC.seqH fun Q72 hQ72 => ?_
 refine sr fun Q73 hQ73 => ?_
 refine vm rfl rfl (RL.val (O.neq rfl rfl) rfl (nt hQ73 (KC.condF rfl (KC.skip (KQ.thn hQ72 ?_)))))
 refine sr fun Q74 hQ74 => ?_
 refine va rfl rfl (va rfl rfl (nt hQ74 ?_))
 refine KC.seqH fun Q75 hQ75 => ?_
 refine sr fun Q76 hQ76 => ?_
 refine va rfl rfl (nt hQ76 (KC.block ?_))
 refine KC.loop (fun k646 a w644 => ∃ (g625 : Nat) (A627 : Option Addr) (c628 : Nat) (A632 : Option Addr) (c633 : Nat) (A636 : Option Addr) (c637 : Nat) (A640 : Option Addr) (c641 : Nat) (cv618 cv619 cv620 cv621 cv622 cv623 : Int) (cv629 : List Xm) (cv630 : Int) (cv634 : List Xc) (inv638 out642 : List XD) (i643 : Int), Kn 151 [(1, .slice A3 (lv2).length c4), (2, .pointer (some ⟨g7, 0, none⟩)), (5, .pointer (some ⟨g69, 0, none⟩)), (7, .slice A636 (inv638).length c637), (8, .slice A640 (out642).length c641), (9, vI i643)] a ∧ Mem w [] w644 [.box g7 24 (b1.cs), .row A627 c628 140 39 (cv629).length ((cv629).flatMap Xt), .box g625 119 [.slice A627 (cv629).length c628, vI cv630], .row A632 c633 62 44 (cv634).length ((cv634).flatMap Xn), .box g69 69 [v64 cv618, vI cv619, v64 cv620, v64 cv621, v64 cv622, v64 cv623, .pointer (some ⟨g625, 0, none⟩), .slice A632 (cv634).length c633], .row A636 c637 137 39 (inv638).length ((inv638).flatMap Yb), .row A640 c641 137 39 (out642).length ((out642).flatMap Yb)] ∧ Yf b1 lv2 k646 cv618 cv619 cv620 cv621 cv622 cv623 cv629 cv630 cv634 inv638 out642 i643 = some r) ?_ ?_
 ·replace hM := hM.nilrow 62 44
  replace hM := hM.nilrow 137 39
  replace hM := hM.nilrow 137 39
  replace hM := hM.pick [0, 1, 2, 4, 3, 5, 6] rfl (by decide)
  exact fun a ha => ⟨fuel0, g63, A59, (Int.toNat (Ox.shl .i64 1 y36)), none, 0, none, 0, none, 0, 0, b1.Xz, b1.XI, b1.XA, b1.Xk, b1.Xr, (List.replicate (Int.toNat (Ox.shl .i64 1 y36)) ((Xm.mk false (Xe.mk (Xd.mk false (List.replicate 16 0)) (Xd.mk false (List.replicate 16 0)) 0 0 0) 0) : Xm)), 0, ([]), ([]), ([]), 0, ha.less (Xa rfl (Xa rfl (Xa rfl (Xa rfl (Xa rfl (Xa rfl Xj)))))), hM, hF⟩
 rintro k646 a w644 ⟨g625, A627, c628, A632, c633, A636, c637, A640, c641, cv618, cv619, cv620, cv621, cv622, cv623, cv629, cv630, cv634, inv638, out642, i643, ha, hM, hF⟩
 refine KC.app ha ?_
 clear ha
 cases k646 with
 | zero => exact (Yl hF).elim
 | succ k646 =>
 have hF : JM (Yf b1 lv2 k646) b1 lv2 cv618 cv619 cv620 cv621 cv622 cv623 cv629 cv630 cv634 inv638 out642 i643 = some r := hF
 unfold JM at hF
 refine KC.seqH fun Q647 hQ647 => ?_
 refine sr fun Q648 hQ648 => ?_
 refine vm rfl rfl (vm rfl rfl (RL.val (O.len sl25 rfl) rfl (RL.val (O.lss rfl rfl) rfl (nt hQ648 ?_))))
 refine KC.cond rfl (fun hc => ?_) (fun hc => ?_)
 ·rw [if_pos hc] at hF
  refine KC.skip (KQ.thn hQ647 ?_)
  refine KC.cut (fun a w902 => ∃ (g884 : Nat) (A886 : Option Addr) (c887 : Nat) (A891 : Option Addr) (c892 : Nat) (A895 : Option Addr) (c896 : Nat) (A899 : Option Addr) (c900 : Nat) (cv877 cv878 cv879 cv880 cv881 cv882 : Int) (cv888 : List Xm) (cv889 : Int) (cv893 : List Xc) (inv897 out901 : List XD), Kn 151 [(1, .slice A3 (lv2).length c4), (2, .pointer (some ⟨g7, 0, none⟩)), (5, .pointer (some ⟨g69, 0, none⟩)), (7, .slice A895 (inv897).length c896), (8, .slice A899 (out901).length c900), (9, vI i643)] a ∧ Mem w [] w902 [.box g7 24 (b1.cs), .row A886 c887 140 39 (cv888).length ((cv888).flatMap Xt), .box g884 119 [.slice A886 (cv888).length c887, vI cv889], .row A891 c892 62 44 (cv893).length ((cv893).flatMap Xn), .box g69 69 [v64 cv877, vI cv878, v64 cv879, v64 cv880, v64 cv881, v64 cv882, .pointer (some ⟨g884, 0, none⟩), .slice A891 (cv893).length c892], .row A895 c896 137 39 (inv897).length ((inv897).flatMap Yb), .row A899 c900 137 39 (out901).length ((out901).flatMap Yb)] ∧ ZR i643 (Yf b1 lv2 k646) cv877 cv878 cv879 cv880 cv881 cv882 cv888 cv889 cv893 inv897 out901 = some r) ?_ ?_
  ·refine KC.block ?_
   refine sr fun Q649 hQ649 => ?_
   refine vm rfl rfl (vm rfl rfl ?_)
   refine Xx hF fun xv652 hx651 hF => ?_
   have hA650 := Rd.atN (f := Zw) (s := 43) (fun _ => rfl) (by decide) (hM.inp hr5 Off.nil) hx651
   refine RL.val (O.idxA sl25 (hA650) rfl rfl) rfl (RL.val (O.loadN (cs := (xv652.cs)) ag46 rfl (hA650).cells) rfl ?_)
   refine RL.eff (E.alloc hM ze46) rfl fun v w654 hv => ?_
   clear hM
   obtain ⟨g653, rfl, hM, hf⟩ := hv
   refine RL.effs (E.stB (j := 7) (off := 0) (vs := (xv652.cs)) (cs' := (xv652.cs)) hM rfl sz46 rfl (XX [] rfl) rfl rfl (One.all rfl) rfl rfl) fun w656 hM1 => ?_
   clear hM
   have hM := hM1
   clear hM1
   refine nt hQ649 ?_
   refine sr fun Q657 hQ657 => ?_
   refine va rfl rfl (nt hQ657 ?_)
   refine KC.cut (fun a w811 => ∃ (g792 : Nat) (A794 : Option Addr) (c795 : Nat) (A799 : Option Addr) (c800 : Nat) (A803 : Option Addr) (c804 : Nat) (A808 : Option Addr) (c809 : Nat) (cv785 cv786 cv787 cv788 cv789 cv790 : Int) (cv796 : List Xm) (cv797 : Int) (cv801 : List Xc) (inv805 : List XD) (done810 : List Xc), Kn 151 [(1, .slice A3 (lv2).length c4), (2, .pointer (some ⟨g7, 0, none⟩)), (5, .pointer (some ⟨g69, 0, none⟩)), (7, .slice A803 (inv805).length c804), (8, .slice A640 (out642).length c641), (9, vI i643), (11, .slice A808 (done810).length c809)] a ∧ Mem w [] w811 [.box g7 24 (b1.cs), .row A794 c795 140 39 (cv796).length ((cv796).flatMap Xt), .box g792 119 [.slice A794 (cv796).length c795, vI cv797], .row A799 c800 62 44 (cv801).length ((cv801).flatMap Xn), .box g69 69 [v64 cv785, vI cv786, v64 cv787, v64 cv788, v64 cv789, v64 cv790, .pointer (some ⟨g792, 0, none⟩), .slice A799 (cv801).length c800], .row A803 c804 137 39 (inv805).length ((inv805).flatMap Yb), .row A640 c641 137 39 (out642).length ((out642).flatMap Yb), .row A808 c809 62 44 (done810).length ((done810).flatMap Xn)] ∧ Zv b1 out642 i643 (Yf b1 lv2 k646) cv785 cv786 cv787 cv788 cv789 cv790 cv796 cv797 cv801 inv805 done810 = some r) ?_ ?_
   ·refine sr fun Q658 hQ658 => ?_
    refine RL.val (O.fldA fl46_0 (by decide) rfl) rfl ?_
    refine RL.val (O.load sc3 rfl (Cs.adds [0] ((hM.bx (i := 7) rfl)) rfl)) rfl ?_
    refine Xx hF fun y659 hx660 hF => ?_
    refine RL.call Tryz.func35 bd35 rfl rfl (Xbr _ xv652.Xas 8 _ hx660) fun v w661 hv => ?_
    obtain ⟨rfl, hN662⟩ := hv
    replace hM := hM.call0 hN662
    refine nt hQ658 (KC.block ?_)
    refine sr fun Q663 hQ663 => ?_
    refine RL.val (O.eql rfl rfl) rfl (va rfl rfl (nt hQ663 ?_))
    refine KC.cond rfl (fun hc => ?_) (fun hc => ?_)
    ·rw [if_pos hc] at hF
     refine KC.region (vm rfl rfl ?_)
     refine Xx hF fun y664 hx665 hF => ?_
     refine RL.call Tryz.func25 bd25 rfl rfl (VG _ _ _ (Xl.mk cv618 (Xg.mk cv619 cv620 cv621 cv622 cv623) (Xw.mk cv629 cv630) cv634) _ _ _ _ _ (hM.lent [4, 2, 1, 3] rfl (by decide)) _ hx665) fun v w666 hv => ?_
     obtain ⟨g668, A670, c671, A673, c674, A676, c677, rfl, hN667⟩ := hv
     replace hM := hM.callL [4, 2, 1, 3] [0, 5, 6, 7] rfl rfl (by decide) rfl hN667
     refine va rfl rfl (RL.nil (KQ.blk_n (KQ.Xy ?_)))
     replace hM := hM.pick [0, 6, 5, 7, 4, 1, 2, 8] rfl (by decide)
     exact fun a ha => ⟨g668, A670, c671, A673, c674, A636, c637, A676, c677, y664.2.XB, y664.2.Xb.Xz, y664.2.Xb.XI, y664.2.Xb.XA, y664.2.Xb.Xk, y664.2.Xb.Xr, y664.2.Xf.Xp, y664.2.Xf.XG, y664.2.Xh, inv638, y664.1, ha.less (Xa rfl (Xa rfl (Xa rfl (Xa rfl (Xa rfl (Xa rfl (Xa rfl Xj))))))), hM, hF⟩
    rw [if_neg (Xv hc)] at hF
    refine KC.cut (fun a w689 => ∃ (t688 : Bool), Kn 151 [(1, .slice A3 (lv2).length c4), (2, .pointer (some ⟨g7, 0, none⟩)), (5, .pointer (some ⟨g69, 0, none⟩)), (7, .slice A636 (inv638).length c637), (8, .slice A640 (out642).length c641), (9, vI i643), (10, .pointer (some ⟨g653, 0, none⟩)), (84, vB t688)] a ∧ Mem w [] w689 [.box g7 24 (b1.cs), .row A627 c628 140 39 (cv629).length ((cv629).flatMap Xt), .box g625 119 [.slice A627 (cv629).length c628, vI cv630], .row A632 c633 62 44 (cv634).length ((cv634).flatMap Xn), .box g69 69 [v64 cv618, vI cv619, v64 cv620, v64 cv621, v64 cv622, v64 cv623, .pointer (some ⟨g625, 0, none⟩), .slice A632 (cv634).length c633], .row A636 c637 137 39 (inv638).length ((inv638).flatMap Yb), .row A640 c641 137 39 (out642).length ((out642).flatMap Yb), .box g653 46 (xv652.cs)] ∧ Zx b1 cv618 cv619 cv620 cv621 cv622 cv623 cv629 cv630 cv634 inv638 out642 i643 (Yf b1 lv2 k646) xv652 t688 = some r) ?_ ?_
    ·refine sr fun Q679 hQ679 => ?_
     refine RL.val (O.eql rfl rfl) rfl (va rfl rfl (nt hQ679 ?_))
     refine KC.cond rfl (fun hc => ?_) (fun hc => ?_)
     ·rw [if_pos hc] at hF
      refine KC.skip (KQ.Xy ?_)
      exact fun a ha => ⟨(y659 == 5), ha.less (Xa rfl (Xa rfl (Xa rfl (Xa rfl (Xa rfl (Xa rfl (Xa rfl (Xa rfl Xj)))))))), hM, hF⟩
     rw [if_neg (Xv hc)] at hF
     refine KC.region (RL.val (O.eql rfl rfl) rfl (va rfl rfl (RL.nil (KQ.Xy ?_))))
     exact fun a ha => ⟨(y659 == 6), ha.less (Xa rfl (Xa rfl (Xa rfl (Xa rfl (Xa rfl (Xa rfl (Xa rfl (Xa rfl Xj)))))))), hM, hF⟩
    rintro a w689 ⟨t688, ha, hM, hF⟩
    refine KC.app ha ?_
    clear ha
    unfold Zx at hF
    refine KC.cond rfl (fun hc => ?_) (fun hc => ?_)
    ·rw [if_pos hc] at hF
     refine sr fun Q690 hQ690 => ?_
     refine vm rfl rfl ?_
     refine Xx hF fun y691 hx692 hF => ?_
     refine RL.call Tryz.func34 bd34 rfl rfl (ZG _ _ _ (Xl.mk cv618 (Xg.mk cv619 cv620 cv621 cv622 cv623) (Xw.mk cv629 cv630) cv634) _ _ (hM.lent [4] rfl (by decide)) _ hx692) fun v w693 hv => ?_
     obtain ⟨rfl, hN694⟩ := hv
     replace hM := hM.call0 hN694
     refine va rfl rfl (nt hQ690 ?_)
     refine sr fun Q695 hQ695 => ?_
     refine vm rfl rfl (RL.val (O.fldA fl46_3 (by decide) rfl) rfl ?_)
     refine RL.val (O.load sc22 rfl (Cs.adds [42] ((hM.bx (i := 7) rfl)) rfl)) rfl ?_
     refine Xx hF fun y696 hx697 hF => ?_
     refine RL.call Tryz.func18 bd18 rfl rfl (Zz _ _ _ (Xl.mk cv618 (Xg.mk cv619 cv620 cv621 cv622 cv623) (Xw.mk cv629 cv630) cv634) _ _ _ _ _ (hM.lent [4, 2, 1, 3] rfl (by decide)) xv652.XK _ hx697) fun v w698 hv => ?_
     obtain ⟨g700, A702, c703, A705, c706, A708, c709, rfl, hN699⟩ := hv
     replace hM := hM.callL [4, 2, 1, 3] [0, 5, 6, 7] rfl rfl (by decide) rfl hN699
     refine va rfl rfl (nt hQ695 ?_)
     refine KC.cut (fun a w746 => ∃ (g732 : Nat) (A734 : Option Addr) (c735 : Nat) (A739 : Option Addr) (c740 : Nat) (cv725 cv726 cv727 cv728 cv729 cv730 : Int) (cv736 : List Xm) (cv737 : Int) (cv741 : List Xc) (t745 : Bool), Kn 151 [(1, .slice A3 (lv2).length c4), (2, .pointer (some ⟨g7, 0, none⟩)), (5, .pointer (some ⟨g69, 0, none⟩)), (7, .slice A636 (inv638).length c637), (8, .slice A640 (out642).length c641), (9, vI i643), (11, .slice A708 (y696.1).length c709), (102, vB t745)] a ∧ Mem w [] w746 [.box g7 24 (b1.cs), .row A734 c735 140 39 (cv736).length ((cv736).flatMap Xt), .box g732 119 [.slice A734 (cv736).length c735, vI cv737], .row A739 c740 62 44 (cv741).length ((cv741).flatMap Xn), .box g69 69 [v64 cv725, vI cv726, v64 cv727, v64 cv728, v64 cv729, v64 cv730, .pointer (some ⟨g732, 0, none⟩), .slice A739 (cv741).length c740], .row A636 c637 137 39 (inv638).length ((inv638).flatMap Yb), .row A640 c641 137 39 (out642).length ((out642).flatMap Yb), .row A708 c709 62 44 (y696.1).length ((y696.1).flatMap Xn)] ∧ Z3 b1 inv638 out642 i643 (Yf b1 lv2 k646) y696 cv725 cv726 cv727 cv728 cv729 cv730 cv736 cv737 cv741 t745 = some r) ?_ ?_
     ·refine KC.region (RL.val (O.fldA fl46_3 (by decide) rfl) rfl ?_)
      refine RL.val (O.load sc22 rfl (Cs.adds [42] ((hM.bx (i := 3) rfl)) rfl)) rfl (vm rfl rfl (RL.val (O.geq rfl rfl) rfl (vm rfl rfl ?_)))
      refine RL.bcase (t := 97) rfl (fun hc => ?_) (fun hc => ?_)
      ·rw [if_pos hc] at hF
       refine RL.gval rfl rfl (O.move rfl) rfl (RL.gval rfl rfl (O.loadN (cs := (b1.cs)) ag24 rfl (Cs.addsN [] ((hM.bx (i := 0) rfl)) rfl)) rfl ?_)
       refine Xx hF fun y711 hx712 hF => ?_
       refine RL.gcall rfl rfl Tryz.func36 bd36 rfl rfl (Xa4 _ _ _ y696.2 _ _ _ _ _ (hM.lent [4, 5, 6, 7] rfl (by decide)) b1 _ hx712) fun v w713 hv => ?_
       obtain ⟨g715, A717, c718, A720, c721, rfl, hN714⟩ := hv
       replace hM := hM.callL [4, 5, 6, 7] [0, 1, 2, 3, 8] rfl rfl (by decide) rfl hN714
       refine RL.gval rfl rfl (O.not rfl) rfl (RL.val (O.pickt rfl rfl) rfl (RL.nil (KQ.Xy ?_)))
       replace hM := hM.pick [0, 7, 6, 8, 5, 1, 2, 4] rfl (by decide)
       exact fun a ha => ⟨g715, A717, c718, A720, c721, y711.2.XB, y711.2.Xb.Xz, y711.2.Xb.XI, y711.2.Xb.XA, y711.2.Xb.Xk, y711.2.Xb.Xr, y711.2.Xf.Xp, y711.2.Xf.XG, y711.2.Xh, (!y711.1), ha.less (Xa rfl (Xa rfl (Xa rfl (Xa rfl (Xa rfl (Xa rfl (Xa rfl (Xa rfl Xj)))))))), hM, hF⟩
      rw [if_neg (Xv hc)] at hF
      refine RL.gskip rfl rfl rfl rfl (RL.gskip rfl rfl rfl rfl (RL.gskip rfl rfl rfl rfl (RL.gskip rfl rfl rfl rfl (RL.val (O.pickf rfl rfl) rfl (RL.nil (KQ.Xy ?_))))))
      replace hM := hM.pick [0, 6, 5, 7, 4, 1, 2, 8] rfl (by decide)
      exact fun a ha => ⟨g700, A702, c703, A705, c706, y696.2.XB, y696.2.Xb.Xz, y696.2.Xb.XI, y696.2.Xb.XA, y696.2.Xb.Xk, y696.2.Xb.Xr, y696.2.Xf.Xp, y696.2.Xf.XG, y696.2.Xh, false, ha.less (Xa rfl (Xa rfl (Xa rfl (Xa rfl (Xa rfl (Xa rfl (Xa rfl (Xa rfl Xj)))))))), hM, hF⟩
     rintro a w746 ⟨g732, A734, c735, A739, c740, cv725, cv726, cv727, cv728, cv729, cv730, cv736, cv737, cv741, t745, ha, hM, hF⟩
     refine KC.app ha ?_
     clear ha
     unfold Z3 at hF
     refine KC.cond rfl (fun hc => ?_) (fun hc => ?_)
     ·rw [if_pos hc] at hF
      refine sr fun Q747 hQ747 => ?_
      refine va rfl rfl (nt hQ747 (KC.ret (KQ.blk_r (KQ.then_r (KQ.blk_r (KQ.then_r ?_))))))
      refine KQ.then_r (KQ.blk_r (KQ.thr hQ75 ?_))
      have hE := Option.some.inj hF
      clear hF
      subst hE
      replace hM := hM.pick [] rfl (by decide)
      refine KQ.rets Tryz.results12 (RVs.cons (RV.tm rfl) RVs.nil) ?_
      exact ⟨_, rfl, rfl, hM⟩
     rw [if_neg (Xv hc)] at hF
     refine KC.skip (KQ.blk_n (KQ.Xy ?_))
     exact fun a ha => ⟨g732, A734, c735, A739, c740, A636, c637, A708, c709, cv725, cv726, cv727, cv728, cv729, cv730, cv736, cv737, cv741, inv638, y696.1, ha.less (Xa rfl (Xa rfl (Xa rfl (Xa rfl (Xa rfl (Xa rfl (Xa rfl Xj))))))), hM, hF⟩
    rw [if_neg (Xv hc)] at hF
    refine KC.seqH fun Q748 hQ748 => ?_
    refine sr fun Q749 hQ749 => ?_
    refine RL.val (O.fldA fl46_1 (by decide) rfl) rfl ?_
    refine RL.val (O.fldA fl44_0 (by decide) rfl) rfl ?_
    refine RL.val (O.loadN (cs := (xv652.XH.Xo.cs)) ag42 rfl (Cs.addsN [1, 0] ((hM.bx (i := 7) rfl)) rfl)) rfl ?_
    refine Xx hF fun y750 hx751 hF => ?_
    refine RL.call Tryz.func37 bd37 rfl rfl (KK _ xv652.XH.Xo _ hx751) fun v w752 hv => ?_
    obtain ⟨rfl, hN753⟩ := hv
    replace hM := hM.call0 hN753
    refine RL.val (O.not rfl) rfl (nt hQ749 ?_)
    refine KC.cond rfl (fun hc => ?_) (fun hc => ?_)
    ·rw [if_pos hc] at hF
     refine KC.exit (KQ.thx hQ748 (KQ.blk_y rfl (KQ.then_x (KQ.blk_x (KQ.Xy ?_)))))
     replace hM := hM.pick [0, 1, 2, 3, 4, 5, 6] rfl (by decide)
     exact fun a ha => ⟨g625, A627, c628, A632, c633, A636, c637, A640, c641, cv618, cv619, cv620, cv621, cv622, cv623, cv629, cv630, cv634, inv638, out642, ha.less (Xa rfl (Xa rfl (Xa rfl (Xa rfl (Xa rfl (Xa rfl Xj)))))), hM, hF⟩
    rw [if_neg (Xv hc)] at hF
    refine KC.skip (KQ.thn hQ748 ?_)
    refine sr fun Q754 hQ754 => ?_
    refine RL.val (O.fldA fl46_1 (by decide) rfl) rfl ?_
    refine RL.val (O.fldA fl44_1 (by decide) rfl) rfl ?_
    refine RL.val (O.load sc3 rfl (Cs.adds [1, 37] ((hM.bx (i := 7) rfl)) rfl)) rfl (RL.val (O.rem rfl rfl (by decide)) rfl ?_)
    refine RL.val (O.fldA fl46_1 (by decide) rfl) rfl ?_
    refine RL.val (O.fldA fl44_1 (by decide) rfl) rfl ?_
    refine RL.effs (E.stB (j := 7) (off := 38) (vs := [vI (Int.tmod xv652.XH.Yk 100000)]) (cs' := (vI xv652.Xas :: (xv652.XH.Xo.cs ++ [vI (Int.tmod xv652.XH.Yk 100000), v8 xv652.XH.XO, vB xv652.XH.YS, v8 xv652.XU, v64 xv652.XK]))) hM rfl sz3 rfl (XX [1, 37] rfl) rfl rfl (One.all rfl) rfl rfl) fun w755 hM1 => ?_
    clear hM
    have hM := hM1
    clear hM1
    refine nt hQ754 ?_
    refine sr fun Q756 hQ756 => ?_
    refine vm rfl rfl (RL.val (O.fldA fl46_1 (by decide) rfl) rfl ?_)
    refine RL.val (O.loadN (cs := (xv652.XH.Xo.cs ++ [vI (Int.tmod xv652.XH.Yk 100000), v8 xv652.XH.XO, vB xv652.XH.YS])) ag44 rfl (Cs.addsN [1] ((hM.bx (i := 7) rfl)) rfl)) rfl (RL.val (O.fldA fl46_2 (by decide) rfl) rfl ?_)
    refine RL.val (O.load sc5 rfl (Cs.adds [41] ((hM.bx (i := 7) rfl)) rfl)) rfl (RL.val (O.fldA fl46_3 (by decide) rfl) rfl ?_)
    refine RL.val (O.load sc22 rfl (Cs.adds [42] ((hM.bx (i := 7) rfl)) rfl)) rfl ?_
    refine Xx hF fun y757 hx758 hF => ?_
    refine RL.call Tryz.func16 bd16 rfl rfl (Yp _ _ _ (Xl.mk cv618 (Xg.mk cv619 cv620 cv621 cv622 cv623) (Xw.mk cv629 cv630) cv634) _ _ _ _ _ (hM.lent [4, 2, 1, 3] rfl (by decide)) (XC.mk xv652.XH.Xo (Int.tmod xv652.XH.Yk 100000) xv652.XH.XO xv652.XH.YS) xv652.XU xv652.XK _ hx758) fun v w759 hv => ?_
    obtain ⟨g761, A763, c764, A766, c767, A769, c770, rfl, hN760⟩ := hv
    replace hM := hM.callL [4, 2, 1, 3] [0, 5, 6, 7] rfl rfl (by decide) rfl hN760
    refine vm rfl rfl (RL.val (O.ext rfl rfl) rfl (RL.val (O.ext rfl rfl) rfl (va rfl rfl (va rfl rfl (nt hQ756 ?_)))))
    refine KC.seqH fun Q772 hQ772 => ?_
    refine sr fun Q773 hQ773 => ?_
    refine vm rfl rfl (RL.val (O.neq rfl rfl) rfl (nt hQ773 ?_))
    refine KC.cond rfl (fun hc => ?_) (fun hc => ?_)
    ·rw [if_pos hc] at hF
     refine sr fun Q774 hQ774 => ?_
     refine va rfl rfl (nt hQ774 (KC.ret (KQ.thr hQ772 (KQ.blk_r (KQ.then_r (KQ.blk_r ?_))))))
     refine KQ.then_r (KQ.then_r (KQ.blk_r (KQ.thr hQ75 ?_)))
     have hE := Option.some.inj hF
     clear hF
     subst hE
     replace hM := hM.pick [] rfl (by decide)
     refine KQ.rets Tryz.results12 (RVs.cons (RV.tm rfl) RVs.nil) ?_
     exact ⟨_, rfl, rfl, hM⟩
    rw [if_neg (Xv hc)] at hF
    refine KC.skip (KQ.thn hQ772 ?_)
    refine sr fun Q775 hQ775 => ?_
    refine vm rfl rfl (va rfl rfl (nt hQ775 (KC.region (vm rfl rfl (RL.val (O.fldA fl46_1 (by decide) rfl) rfl ?_)))))
    refine RL.val (O.fldA fl44_0 (by decide) rfl) rfl ?_
    refine RL.val (O.loadN (cs := (xv652.XH.Xo.cs)) ag42 rfl (Cs.addsN [1, 0] ((hM.bx (i := 3) rfl)) rfl)) rfl (RL.val (O.fldA fl46_1 (by decide) rfl) rfl ?_)
    refine RL.val (O.fldA fl44_1 (by decide) rfl) rfl ?_
    refine RL.val (O.load sc3 rfl (Cs.adds [1, 37] ((hM.bx (i := 3) rfl)) rfl)) rfl (RL.val (O.max2 rfl rfl) rfl (RL.val (O.conv un3 Tryz.underlying22 rfl) rfl (RL.val (O.bld (cs := [v64 1, v64 (IntKind.u64.wrap (gmax 0 (Int.tmod xv652.XH.Yk 100000)))]) bt100 rfl (by kernel_rfl)) rfl ?_)))
    refine Xx hF fun y776 hx777 hF => ?_
    refine RL.call Tryz.func38 bd38 rfl rfl (Xay _ _ _ inv638 (hM.lent [1] rfl (by decide)) xv652.XH.Xo (Yc.mk 1 (IntKind.u64.wrap (gmax 0 (Int.tmod xv652.XH.Yk 100000)))) _ hx777) fun v w778 hv => ?_
    obtain ⟨A780, c781, rfl, hN779⟩ := hv
    replace hM := hM.callL [1] [0, 2, 3, 4, 5, 6, 7, 8] rfl rfl (by decide) rfl hN779
    refine va rfl rfl (RL.nil (KQ.blk_n (KQ.Xy ?_)))
    replace hM := hM.pick [0, 5, 4, 6, 3, 8, 1, 7] rfl (by decide)
    exact fun a ha => ⟨g761, A763, c764, A766, c767, A780, c781, A769, c770, y757.2.2.XB, y757.2.2.Xb.Xz, y757.2.2.Xb.XI, y757.2.2.Xb.XA, y757.2.2.Xb.Xk, y757.2.2.Xb.Xr, y757.2.2.Xf.Xp, y757.2.2.Xf.XG, y757.2.2.Xh, y776, y757.1, ha.less (Xa rfl (Xa rfl (Xa rfl (Xa rfl (Xa rfl (Xa rfl (Xa rfl Xj))))))), hM, hF⟩
   rintro a w811 ⟨g792, A794, c795, A799, c800, A803, c804, A808, c809, cv785, cv786, cv787, cv788, cv789, cv790, cv796, cv797, cv801, inv805, done810, ha, hM, hF⟩
   refine KC.app ha ?_
   clear ha
   unfold Zv at hF
   refine sr fun Q812 hQ812 => ?_
   refine vm rfl rfl (vm rfl rfl ?_)
   refine Xx hF fun y813 hx814 hF => ?_
   refine RL.call Tryz.func39 bd39 rfl rfl (Xba _ _ _ out642 (hM.lent [6] rfl (by decide)) _ _ done810 (hM.rd (i := 7) rfl) (hM.offR [6] rfl (i := 7) rfl rfl) _ hx814) fun v w815 hv => ?_
   obtain ⟨A817, c818, rfl, hN816⟩ := hv
   replace hM := hM.callL [6] [0, 1, 2, 3, 4, 5, 7] rfl rfl (by decide) rfl hN816
   refine vm rfl rfl (RL.val (O.ext rfl rfl) rfl (RL.val (O.ext rfl rfl) rfl (va rfl rfl (va rfl rfl (nt hQ812 ?_)))))
   replace hM := hM.pick [0, 1, 2, 3, 4, 5, 7] rfl (by decide)
   refine sr fun Q820 hQ820 => ?_
   refine vm rfl rfl (va rfl rfl (nt hQ820 ?_))
   refine KC.cut (fun a w873 => ∃ (g860 : Nat) (A862 : Option Addr) (c863 : Nat) (A867 : Option Addr) (c868 : Nat) (cv853 cv854 cv855 cv856 cv857 cv858 : Int) (cv864 : List Xm) (cv865 : Int) (cv869 : List Xc) (t872 : Bool), Kn 151 [(1, .slice A3 (lv2).length c4), (2, .pointer (some ⟨g7, 0, none⟩)), (5, .pointer (some ⟨g69, 0, none⟩)), (7, .slice A803 (inv805).length c804), (8, .slice A817 (y813.1).length c818), (9, vI i643), (119, vB t872)] a ∧ Mem w [] w873 [.box g7 24 (b1.cs), .row A862 c863 140 39 (cv864).length ((cv864).flatMap Xt), .box g860 119 [.slice A862 (cv864).length c863, vI cv865], .row A867 c868 62 44 (cv869).length ((cv869).flatMap Xn), .box g69 69 [v64 cv853, vI cv854, v64 cv855, v64 cv856, v64 cv857, v64 cv858, .pointer (some ⟨g860, 0, none⟩), .slice A867 (cv869).length c868], .row A803 c804 137 39 (inv805).length ((inv805).flatMap Yb), .row A817 c818 137 39 (y813.1).length ((y813.1).flatMap Yb)] ∧ JH i643 (Yf b1 lv2 k646) inv805 y813 cv853 cv854 cv855 cv856 cv857 cv858 cv864 cv865 cv869 t872 = some r) ?_ ?_
   ·replace hM := hM.drewN 1
    refine KC.draw [] [4] [4, 7] [0, 1, 2, 3, 5, 6, 8, 9] (.cons 0 (.cons 1 (.cons 2 (.cons 3 (.cons 6 (.alt 4 (.ofList [5, 7, 8, 9]) 7 (.ofList [4, 5, 8, 9]))))))) moP (by kernel_rfl) ?_
    refine RD.p rfl rfl rfl rfl (fun w' => O.move rfl) ?_
    refine RD.p rfl rfl rfl rfl (fun w' => O.not rfl) ?_
    refine RD.p rfl rfl rfl rfl (fun w' => O.move rfl) ?_
    refine RD.bcase (t := 112) rfl (fun hc => ?_) (fun hc => ?_)
    ·rw [if_pos hc] at hF
     refine RD.gskip rfl rfl rfl rfl rfl (RD.gskip rfl rfl rfl rfl rfl ?_)
     refine RD.alt ?_ ?_
     ·refine RD.gskip rfl rfl rfl rfl rfl (RD.gskip rfl rfl rfl rfl rfl (RD.gskip rfl rfl rfl rfl rfl (RD.gskip rfl rfl rfl rfl rfl ?_)))
      refine RD.p rfl rfl rfl rfl (fun w' => O.pickt rfl rfl) (RD.nil (KQ.Xy ?_))
      exact fun a ha => ⟨g792, A794, c795, A799, c800, cv785, cv786, cv787, cv788, cv789, cv790, cv796, cv797, cv801, true, ha.less (Xa rfl (Xa rfl (Xa rfl (Xa rfl (Xa rfl (Xa rfl (Xa rfl Xj))))))), hM, hF⟩
     refine RD.gskip rfl rfl rfl rfl rfl (RD.gskip rfl rfl rfl rfl rfl (RD.gskip rfl rfl rfl rfl rfl (RD.gskip rfl rfl rfl rfl rfl ?_)))
     refine RD.p rfl rfl rfl rfl (fun w' => O.pickt rfl rfl) (RD.nil (KQ.Xy ?_))
     exact fun a ha => ⟨g792, A794, c795, A799, c800, cv785, cv786, cv787, cv788, cv789, cv790, cv796, cv797, cv801, true, ha.less (Xa rfl (Xa rfl (Xa rfl (Xa rfl (Xa rfl (Xa rfl (Xa rfl Xj))))))), hM, hF⟩
    rw [if_neg (Xv hc)] at hF
    refine RD.gp rfl rfl rfl rfl rfl rfl (fun w' => O.move rfl) ?_
    refine RD.gp rfl rfl rfl rfl rfl rfl (fun w' => O.fldA fl24_0 (by decide) rfl) ?_
    refine RD.alt ?_ ?_
    ·refine Xx hF fun y821 hx822 hF => ?_
     refine RD.mcall rfl rfl ⟨rfl, rfl⟩ Tryz.func33 bd33 rfl rfl (YY _ _ _ (Xl.mk cv785 (Xg.mk cv786 cv787 cv788 cv789 cv790) (Xw.mk cv796 cv797) cv801) _ _ _ _ _ (hM.lent [4, 2, 1, 3] rfl (by decide)) _ hx822) fun v w823 hv => ?_
     obtain ⟨g825, A827, c828, A830, c831, A833, c834, rfl, hN824⟩ := hv
     refine ⟨fun h => (by cases h), ?_⟩
     replace hM := hM.callL [4, 2, 1, 3] [0, 5, 6] rfl rfl (by decide) rfl hN824
     refine RD.gp rfl rfl rfl rfl rfl rfl (fun w' => O.len sl55 rfl) (RD.gmq rfl rfl rfl rfl (O.load sc3 rfl (Cs.adds [0] ((hM.bx (i := 0) rfl)) rfl)) rfl ?_)
     refine RD.gp rfl rfl rfl rfl rfl rfl (fun w' => O.gtr rfl rfl) ?_
     refine RD.p rfl rfl rfl rfl (fun w' => O.pickf rfl rfl) (RD.nil (KQ.Xy ?_))
     replace hM := hM.pick [0, 5, 4, 6, 3, 1, 2] rfl (by decide)
     exact fun a ha => ⟨g825, A827, c828, A830, c831, y821.2.XB, y821.2.Xb.Xz, y821.2.Xb.XI, y821.2.Xb.XA, y821.2.Xb.Xk, y821.2.Xb.Xr, y821.2.Xf.Xp, y821.2.Xf.XG, y821.2.Xh, (decide (b1.Xz < (y821.1.length : Int))), ha.less (Xa rfl (Xa rfl (Xa rfl (Xa rfl (Xa rfl (Xa rfl (Xa rfl Xj))))))), hM, hF⟩
    refine RD.gmq rfl rfl rfl rfl (O.load sc3 rfl (Cs.adds [0] ((hM.bx (i := 0) rfl)) rfl)) rfl ?_
    refine Xx hF fun y836 hx837 hF => ?_
    refine RD.mcall rfl rfl ⟨rfl, rfl⟩ Tryz.func33 bd33 rfl rfl (YY _ _ _ (Xl.mk cv785 (Xg.mk cv786 cv787 cv788 cv789 cv790) (Xw.mk cv796 cv797) cv801) _ _ _ _ _ (hM.lent [4, 2, 1, 3] rfl (by decide)) _ hx837) fun v w838 hv => ?_
    obtain ⟨g840, A842, c843, A845, c846, A848, c849, rfl, hN839⟩ := hv
    refine ⟨fun h => (by cases h), ?_⟩
    replace hM := hM.callL [4, 2, 1, 3] [0, 5, 6] rfl rfl (by decide) rfl hN839
    refine RD.gp rfl rfl rfl rfl rfl rfl (fun w' => O.len sl55 rfl) ?_
    refine RD.gp rfl rfl rfl rfl rfl rfl (fun w' => O.gtr rfl rfl) ?_
    refine RD.p rfl rfl rfl rfl (fun w' => O.pickf rfl rfl) (RD.nil (KQ.Xy ?_))
    replace hM := hM.pick [0, 5, 4, 6, 3, 1, 2] rfl (by decide)
    exact fun a ha => ⟨g840, A842, c843, A845, c846, y836.2.XB, y836.2.Xb.Xz, y836.2.Xb.XI, y836.2.Xb.XA, y836.2.Xb.Xk, y836.2.Xb.Xr, y836.2.Xf.Xp, y836.2.Xf.XG, y836.2.Xh, (decide (b1.Xz < (y836.1.length : Int))), ha.less (Xa rfl (Xa rfl (Xa rfl (Xa rfl (Xa rfl (Xa rfl (Xa rfl Xj))))))), hM, hF⟩
   rintro a w873 ⟨g860, A862, c863, A867, c868, cv853, cv854, cv855, cv856, cv857, cv858, cv864, cv865, cv869, t872, ha, hM, hF⟩
   refine KC.app ha ?_
   clear ha
   unfold JH at hF
   refine KC.cond rfl (fun hc => ?_) (fun hc => ?_)
   ·rw [if_pos hc] at hF
    refine sr fun Q874 hQ874 => ?_
    refine va rfl rfl (nt hQ874 (KC.ret (KQ.blk_r (KQ.then_r (KQ.then_r (KQ.blk_r ?_))))))
    refine KQ.thr hQ75 ?_
    have hE := Option.some.inj hF
    clear hF
    subst hE
    replace hM := hM.pick [] rfl (by decide)
    refine KQ.rets Tryz.results12 (RVs.cons (RV.tm rfl) RVs.nil) ?_
    exact ⟨_, rfl, rfl, hM⟩
   rw [if_neg (Xv hc)] at hF
   refine KC.skip (KQ.blk_n (KQ.Xy ?_))
   exact fun a ha => ⟨g860, A862, c863, A867, c868, A803, c804, A817, c818, cv853, cv854, cv855, cv856, cv857, cv858, cv864, cv865, cv869, inv805, y813.1, ha.less (Xa rfl (Xa rfl (Xa rfl (Xa rfl (Xa rfl (Xa rfl Xj)))))), hM, hF⟩
  rintro a w902 ⟨g884, A886, c887, A891, c892, A895, c896, A899, c900, cv877, cv878, cv879, cv880, cv881, cv882, cv888, cv889, cv893, inv897, out901, ha, hM, hF⟩
  refine KC.app ha ?_
  clear ha
  unfold ZR at hF
  refine KC.region (vm rfl rfl (RL.val (O.add rfl rfl) rfl (va rfl rfl (RL.nil (KQ.Xy ?_)))))
  exact fun a ha => ⟨k646, Nat.lt_succ_self k646, g884, A886, c887, A891, c892, A895, c896, A899, c900, cv877, cv878, cv879, cv880, cv881, cv882, cv888, cv889, cv893, inv897, out901, (IntKind.i64.wrap (i643 + 1)), ha.less (Xa rfl (Xa rfl (Xa rfl (Xa rfl (Xa rfl (Xa rfl Xj)))))), hM, hF⟩
 rw [if_neg (Xv hc)] at hF
 refine KC.exit (KQ.thx hQ647 (KQ.then_x (KQ.blk_x (KQ.thn hQ75 ?_))))
 replace hM := hM.pick [1, 2, 3, 4, 5, 6] rfl (by decide)
 refine sr fun Q903 hQ903 => ?_
 refine vm rfl rfl ?_
 refine Xx hF fun y904 hx905 hF => ?_
 refine RL.call Tryz.func33 bd33 rfl rfl (YY _ _ _ (Xl.mk cv618 (Xg.mk cv619 cv620 cv621 cv622 cv623) (Xw.mk cv629 cv630) cv634) _ _ _ _ _ (hM.lent [3, 1, 0, 2] rfl (by decide)) _ hx905) fun v w906 hv => ?_
 obtain ⟨g908, A910, c911, A913, c914, A916, c917, rfl, hN907⟩ := hv
 replace hM := hM.callL [3, 1, 0, 2] [4, 5] rfl rfl (by decide) rfl hN907
 refine va rfl rfl (nt hQ903 ?_)
 replace hM := hM.pick [0, 1, 6] rfl (by decide)
 refine KC.seqH fun Q919 hQ919 => ?_
 refine sr fun Q920 hQ920 => ?_
 refine va rfl rfl (nt hQ920 (KC.block ?_))
 refine KC.loop (fun k977 a w975 => ∃ (A970 : Option Addr) (c971 : Nat) (out972 : List XD) (i974 : Int), Kn 151 [(7, .slice A636 (inv638).length c637), (8, .slice A970 (out972).length c971), (17, .slice A916 (y904.1).length c917), (18, vI i974)] a ∧ Mem w [] w975 [.row A636 c637 137 39 (inv638).length ((inv638).flatMap Yb), .row A970 c971 137 39 (out972).length ((out972).flatMap Yb), .row A916 c917 62 44 (y904.1).length ((y904.1).flatMap Xn)] ∧ Y0 inv638 y904 k977 out972 i974 = some r) ?_ ?_
 ·exact fun a ha => ⟨fuel0, A640, c641, out642, 0, ha.less (Xa rfl (Xa rfl (Xa rfl (Xa rfl Xj)))), hM, hF⟩
 rintro k977 a w975 ⟨A970, c971, out972, i974, ha, hM, hF⟩
 refine KC.app ha ?_
 clear ha
 cases k977 with
 | zero => exact (Yl hF).elim
 | succ k977 =>
 have hF : Zs (Y0 inv638 y904 k977) inv638 y904 out972 i974 = some r := hF
 unfold Zs at hF
 refine KC.seqH fun Q978 hQ978 => ?_
 refine sr fun Q979 hQ979 => ?_
 refine vm rfl rfl (vm rfl rfl (RL.val (O.len sl55 rfl) rfl (RL.val (O.lss rfl rfl) rfl (nt hQ979 ?_))))
 refine KC.cond rfl (fun hc => ?_) (fun hc => ?_)
 ·rw [if_pos hc] at hF
  refine KC.skip (KQ.thn hQ978 ?_)
  refine KC.seqH fun Q980 hQ980 => ?_
  refine KC.block ?_
  replace hM := hM.drewN 1
  refine KC.draw [] [11] [10, 11] [0, 1, 2, 4, 6, 7, 12] (.ofList [0, 1, 2, 3, 4, 5, 6, 7, 8, 9, 10, 11, 12]) moP (by kernel_rfl) ?_
  refine RD.p rfl rfl rfl rfl (fun w' => O.move rfl) ?_
  refine RD.p rfl rfl rfl rfl (fun w' => O.move rfl) ?_
  refine RD.p rfl rfl rfl rfl (fun w' => O.move rfl) ?_
  refine Xx hF fun xv983 hx982 hF => ?_
  have hA981 := Rd.atN (f := Xn) (s := 44) (fun _ => rfl) (by decide) (hM.rd (i := 2) rfl) hx982
  refine RD.q rfl rfl rfl rfl (fun w' hf => O.idxA sl55 (hA981.fut hf) rfl rfl) ?_
  refine RD.p rfl rfl rfl rfl (fun w' => O.fldA fl62_0 (by decide) rfl) ?_
  refine RD.q rfl rfl rfl rfl (fun w' hf => O.loadN (cs := (xv983.Xo.cs)) ag42 rfl (Cs.addsN [0] (hA981.fut hf).cells rfl)) ?_
  refine RD.p rfl rfl rfl rfl (fun w' => O.move rfl) ?_
  refine RD.p rfl rfl rfl rfl (fun w' => O.move rfl) ?_
  refine Xx hF fun xv986 hx985 hF => ?_
  have hA984 := Rd.atN (f := Xn) (s := 44) (fun _ => rfl) (by decide) (hM.rd (i := 2) rfl) hx985
  refine RD.q rfl rfl rfl rfl (fun w' hf => O.idxA sl55 (hA984.fut hf) rfl rfl) ?_
  refine RD.q rfl rfl rfl rfl (fun w' hf => O.loadN (cs := (xv986.cs)) ag62 rfl (hA984.fut hf).cells) ?_
  refine Xx hF fun y987 hx988 hF => ?_
  refine RD.mcall rfl rfl trivial Tryz.func40 bd40 rfl rfl (K3 _ xv986 _ hx988) fun v w989 hv => ?_
  obtain ⟨rfl, hN990⟩ := hv
  refine ⟨fun _ => hN990.fut, ?_⟩
  replace hM := hM.call0 hN990
  refine Xx hF fun y991 hx992 hF => ?_
  refine RD.mcall rfl rfl trivial Tryz.func38 bd38 rfl rfl (Xay _ _ _ out972 (hM.lent [1] rfl (by decide)) xv983.Xo y987 _ hx992) fun v w993 hv => ?_
  obtain ⟨A995, c996, rfl, hN994⟩ := hv
  refine ⟨fun h => (by cases h), ?_⟩
  replace hM := hM.callL [1] [0, 2] rfl rfl (by decide) rfl hN994
  refine RD.p rfl rfl rfl rfl (fun w' => O.assign rfl) (RD.nil (KQ.blk_n (KQ.thn hQ980 (KC.region (vm rfl rfl (RL.val (O.add rfl rfl) rfl ?_))))))
  refine va rfl rfl (RL.nil (KQ.Xy ?_))
  replace hM := hM.pick [0, 2, 1] rfl (by decide)
  exact fun a ha => ⟨k977, Nat.lt_succ_self k977, A995, c996, y991, (IntKind.i64.wrap (i974 + 1)), ha.less (Xa rfl (Xa rfl (Xa rfl (Xa rfl Xj)))), hM, hF⟩
 rw [if_neg (Xv hc)] at hF
 refine KC.exit (KQ.thx hQ978 (KQ.then_x (KQ.blk_x (KQ.thn hQ919 ?_))))
 refine KC.cut (fun a w1011 => ∃ (t1010 : Bool), Kn 151 [(4, vB t1010)] a ∧ Mem w [] w1011 [] ∧ Y6 t1010 = some r) ?_ ?_
 ·refine KC.region (vm rfl rfl (vm rfl rfl ?_))
  refine Xx hF fun y998 hx999 hF => ?_
  refine RL.call Tryz.func41 bd41 rfl rfl (XaT _ _ _ inv638 (hM.rd (i := 0) rfl) _ _ out972 (hM.rd (i := 1) rfl) _ hx999) fun v w1000 hv => ?_
  obtain ⟨rfl, hN1001⟩ := hv
  replace hM := hM.call0 hN1001
  refine vm rfl rfl ?_
  refine RL.bcase (t := 143) rfl (fun hc => ?_) (fun hc => ?_)
  ·rw [if_pos hc] at hF
   refine RL.gval rfl rfl (O.move rfl) rfl (RL.gval rfl rfl (O.move rfl) rfl ?_)
   refine Xx hF fun y1002 hx1003 hF => ?_
   refine RL.gcall rfl rfl Tryz.func41 bd41 rfl rfl (XaT _ _ _ out972 (hM.rd (i := 1) rfl) _ _ inv638 (hM.rd (i := 0) rfl) _ hx1003) fun v w1004 hv => ?_
   obtain ⟨rfl, hN1005⟩ := hv
   replace hM := hM.call0 hN1005
   refine RL.val (O.pickt rfl rfl) rfl (vm rfl rfl ?_)
   refine RL.bcase (t := 148) rfl (fun hc => ?_) (fun hc => ?_)
   ·rw [if_pos hc] at hF
    refine Xx hF fun y1006 hx1007 hF => ?_
    refine RL.gcall rfl rfl Tryz.func5 bd5 rfl rfl (YR _ _ hx1007) fun v w1008 hv => ?_
    obtain ⟨rfl, hN1009⟩ := hv
    replace hM := hM.call0 hN1009
    refine RL.val (O.pickt rfl rfl) rfl (va rfl rfl (RL.nil (KQ.Xy ?_)))
    replace hM := hM.pick [] rfl (by decide)
    exact fun a ha => ⟨y1006, ha.less (Xa rfl Xj), hM, hF⟩
   rw [if_neg (Xv hc)] at hF
   refine RL.gskip rfl rfl rfl rfl (RL.val (O.pickf rfl rfl) rfl (va rfl rfl (RL.nil (KQ.Xy ?_))))
   replace hM := hM.pick [] rfl (by decide)
   exact fun a ha => ⟨false, ha.less (Xa rfl Xj), hM, hF⟩
  rw [if_neg (Xv hc)] at hF
  refine RL.brun1 7 150 false (by kernel_rfl) ?_
  refine va rfl rfl (RL.nil (KQ.Xy ?_))
  replace hM := hM.pick [] rfl (by decide)
  exact fun a ha => ⟨false, ha.less (Xa rfl Xj), hM, hF⟩
 rintro a w1011 ⟨t1010, ha, hM, hF⟩
 refine KC.app ha ?_
 clear ha
 unfold Y6 at hF
 refine KC.ret ?_
 have hE := Option.some.inj hF
 clear hF
 subst hE
 refine KQ.rets Tryz.results12 (RVs.cons (RV.tm rfl) RVs.nil) ?_
 exact ⟨_, rfl, rfl, hM⟩
end Go.Proofs.YtkpnocgfhipidaaGreat
