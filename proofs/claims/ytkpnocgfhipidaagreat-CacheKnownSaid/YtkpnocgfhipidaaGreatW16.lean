/- Printed by a program of this claim: each call returns what the plain function of its name gives. -/
import Derived.Test.YtkpnocgfhipidaaGreatW1
import Derived.Test.YtkpnocgfhipidaaGreatW9
import Derived.Test.YtkpnocgfhipidaaGreatW14
import Derived.Test.YtkpnocgfhipidaaGreatW15
set_option linter.unusedVariables false
set_option maxRecDepth 100000
set_option maxHeartbeats 40000000
namespace Go.Proofs.YtkpnocgfhipidaaGreat
open Go Go.Ox Go.RowKit
theorem VT (w : World) (tick1 : Int) (b2 : Xg) (A4 : Option Addr) (c5 : Nat) (lv3 : List XF) (hr6 : Rd w A4 c5 43 lv3.length (lv3.flatMap Zw)) (r : Bool) (hF : Jc tick1 b2 lv3 = some r) :
  CallsR Tryz.prog 3 [v64 tick1, .agg (b2.cs).toArray, .slice A4 (lv3).length c5] w (fun v w' => v = vB r ∧ Mem w [] w' []) := by
 refine XJ Tryz.func3 rfl Tryz.ntmps3 rfl ?_
 have hM := Mem.init w
 unfold Jc at hF
 refine sr fun Q7 hQ7 => ?_
 refine RL.eff (E.box (vs := (b2.cs)) hM rfl rfl) rfl fun v w9 hv => ?_
 clear hM
 obtain ⟨g8, rfl, hM, hf⟩ := hv
 refine va rfl rfl (nt hQ7 ?_)
 refine KC.seqH fun Q11 hQ11 => ?_
 refine sr fun Q12 hQ12 => ?_
 refine vm rfl rfl (RL.val (O.len sl25 rfl) rfl (RL.val (O.gtr rfl rfl) rfl (nt hQ12 ?_)))
 refine KC.cond rfl (fun hc => ?_) (fun hc => ?_)
 ·rw [if_pos hc] at hF
  refine sr fun Q13 hQ13 => ?_
  refine Xx hF fun y14 hx15 hF => ?_
  refine RL.call Tryz.func5 bd5 rfl rfl (YR _ _ hx15) fun v w16 hv => ?_
  obtain ⟨rfl, hN17⟩ := hv
  replace hM := hM.call0 hN17
  refine va rfl rfl (nt hQ13 (KC.ret (KQ.thr hQ11 ?_)))
  have hE := Option.some.inj hF
  clear hF
  subst hE
  replace hM := hM.pick [] rfl (by decide)
  refine KQ.rets Tryz.results3 (RVs.cons (RV.tm rfl) RVs.nil) ?_
  exact ⟨_, rfl, rfl, hM⟩
 rw [if_neg (Xv hc)] at hF
 refine KC.skip (KQ.thn hQ11 ?_)
 refine sr fun Q18 hQ18 => ?_
 refine vm rfl rfl (RL.val (O.loadN (cs := (b2.cs)) ag24 rfl (Cs.addsN [] ((hM.bx (i := 0) rfl)) rfl)) rfl (RL.icall Tryz.func6 bd6 rfl rfl rfl Tryz.ntmps6 rfl ?_))
 refine sr fun Q19 hQ19 => ?_
 refine RL.eff (E.box (vs := (b2.cs)) hM rfl rfl) rfl fun v w21 hv => ?_
 clear hM
 obtain ⟨g20, rfl, hM, hf⟩ := hv
 refine va rfl rfl (va rfl rfl (nt hQ19 ?_))
 refine KC.seqH fun Q23 hQ23 => ?_
 refine KC.cut (fun a w27 => ∃ (t25 : Bool), Kn 53 [(0, v64 tick1), (3, .pointer (some ⟨g20, 0, none⟩)), (35, vB t25)] a ∧ Mem w [] w27 [.box g20 24 (b2.cs), .box g8 24 (b2.cs)] ∧ YE tick1 b2 lv3 t25 = some r) ?_ ?_
 ·refine KC.region (RL.val (O.fldA fl24_0 (by decide) rfl) rfl ?_)
  refine RL.val (O.load sc3 rfl (Cs.adds [0] ((hM.bx (i := 1) rfl)) rfl)) rfl (RL.val (O.lss rfl rfl) rfl (vm rfl rfl ?_))
  refine RL.bcase (t := 11) rfl (fun hc => ?_) (fun hc => ?_)
  ·rw [if_pos hc] at hF
   refine RL.brun1 24 35 true (by kernel_rfl) ?_
   refine RL.nil (KQ.Xy ?_)
   replace hM := hM.pick [1, 0] rfl (by decide)
   exact fun a ha => ⟨true, ha.less (Xa rfl (Xa rfl (Xa rfl Xj))), hM, hF⟩
  rw [if_neg (Xv hc)] at hF
  refine RL.gval rfl rfl (O.fldA fl24_0 (by decide) rfl) rfl ?_
  refine RL.gval rfl rfl (O.load sc3 rfl (Cs.adds [0] ((hM.bx (i := 1) rfl)) rfl)) rfl (RL.gval rfl rfl (O.gtr rfl rfl) rfl (RL.val (O.pickf rfl rfl) rfl (vm rfl rfl ?_)))
  refine RL.bcase (t := 16) rfl (fun hc => ?_) (fun hc => ?_)
  ·rw [if_pos hc] at hF
   refine RL.brun1 19 35 true (by kernel_rfl) ?_
   refine RL.nil (KQ.Xy ?_)
   replace hM := hM.pick [1, 0] rfl (by decide)
   exact fun a ha => ⟨true, ha.less (Xa rfl (Xa rfl (Xa rfl Xj))), hM, hF⟩
  rw [if_neg (Xv hc)] at hF
  refine RL.gval rfl rfl (O.fldA fl24_1 (by decide) rfl) rfl ?_
  refine RL.gval rfl rfl (O.load sc22 rfl (Cs.adds [1] ((hM.bx (i := 1) rfl)) rfl)) rfl (RL.gval rfl rfl (O.eql rfl rfl) rfl (RL.val (O.pickf rfl rfl) rfl (vm rfl rfl ?_)))
  refine RL.bcase (t := 21) rfl (fun hc => ?_) (fun hc => ?_)
  ·rw [if_pos hc] at hF
   refine RL.brun1 14 35 true (by kernel_rfl) ?_
   refine RL.nil (KQ.Xy ?_)
   replace hM := hM.pick [1, 0] rfl (by decide)
   exact fun a ha => ⟨true, ha.less (Xa rfl (Xa rfl (Xa rfl Xj))), hM, hF⟩
  rw [if_neg (Xv hc)] at hF
  refine RL.gval rfl rfl (O.fldA fl24_2 (by decide) rfl) rfl ?_
  refine RL.gval rfl rfl (O.load sc22 rfl (Cs.adds [2] ((hM.bx (i := 1) rfl)) rfl)) rfl (RL.gval rfl rfl (O.eql rfl rfl) rfl (RL.val (O.pickf rfl rfl) rfl (vm rfl rfl ?_)))
  refine RL.bcase (t := 26) rfl (fun hc => ?_) (fun hc => ?_)
  ·rw [if_pos hc] at hF
   refine RL.brun1 9 35 true (by kernel_rfl) ?_
   refine RL.nil (KQ.Xy ?_)
   replace hM := hM.pick [1, 0] rfl (by decide)
   exact fun a ha => ⟨true, ha.less (Xa rfl (Xa rfl (Xa rfl Xj))), hM, hF⟩
  rw [if_neg (Xv hc)] at hF
  refine RL.gval rfl rfl (O.fldA fl24_3 (by decide) rfl) rfl ?_
  refine RL.gval rfl rfl (O.load sc22 rfl (Cs.adds [3] ((hM.bx (i := 1) rfl)) rfl)) rfl (RL.gval rfl rfl (O.eql rfl rfl) rfl (RL.val (O.pickf rfl rfl) rfl (vm rfl rfl ?_)))
  refine RL.bcase (t := 31) rfl (fun hc => ?_) (fun hc => ?_)
  ·rw [if_pos hc] at hF
   refine RL.brun1 4 35 true (by kernel_rfl) ?_
   refine RL.nil (KQ.Xy ?_)
   replace hM := hM.pick [1, 0] rfl (by decide)
   exact fun a ha => ⟨true, ha.less (Xa rfl (Xa rfl (Xa rfl Xj))), hM, hF⟩
  rw [if_neg (Xv hc)] at hF
  refine RL.gval rfl rfl (O.fldA fl24_4 (by decide) rfl) rfl ?_
  refine RL.gval rfl rfl (O.load sc22 rfl (Cs.adds [4] ((hM.bx (i := 1) rfl)) rfl)) rfl (RL.gval rfl rfl (O.eql rfl rfl) rfl (RL.val (O.pickf rfl rfl) rfl (RL.nil (KQ.Xy ?_))))
  replace hM := hM.pick [1, 0] rfl (by decide)
  exact fun a ha => ⟨(b2.Xr == 0), ha.less (Xa rfl (Xa rfl (Xa rfl Xj))), hM, hF⟩
 rintro a w27 ⟨t25, ha, hM, hF⟩
 refine KC.app ha ?_
 clear ha
 unfold YE at hF
 refine KC.cond rfl (fun hc => ?_) (fun hc => ?_)
 ·rw [if_pos hc] at hF
  refine sr fun Q28 hQ28 => ?_
  refine va rfl rfl (va rfl rfl (nt hQ28 (KC.ret (KQ.thr hQ23 (KQ.rets Tryz.results6 (RVs.cons (RV.tm rfl) (RVs.cons (RV.tm rfl) RVs.nil)) (⟨.tuple #[.pointer none, vI 2], rfl, ?_⟩))))))
  refine vm rfl rfl (RL.val (O.ext rfl rfl) rfl (RL.val (O.ext rfl rfl) rfl (va rfl rfl (va rfl rfl (nt hQ18 ?_)))))
  refine sr fun Q29 hQ29 => ?_
  refine vm rfl rfl (RL.val (O.loadN (cs := (b2.cs)) ag24 rfl (Cs.addsN [] ((hM.bx (i := 1) rfl)) rfl)) rfl ?_)
  refine Xx hF fun y30 hx31 hF => ?_
  refine RL.call Tryz.func8 bd8 rfl rfl (V9 _ b2 _ hx31) fun v w32 hv => ?_
  obtain ⟨rfl, hN33⟩ := hv
  replace hM := hM.call0 hN33
  refine RL.icall Tryz.func7 bd7 rfl rfl rfl Tryz.ntmps7 rfl ?_
  refine sr fun Q34 hQ34 => ?_
  refine RL.eff (E.box (vs := (y30.cs)) hM rfl rfl) rfl fun v w36 hv => ?_
  clear hM
  obtain ⟨g35, rfl, hM, hf⟩ := hv
  refine va rfl rfl (va rfl rfl (nt hQ34 ?_))
  refine KC.seqH fun Q38 hQ38 => ?_
  refine KC.cut (fun a w42 => ∃ (t40 : Bool), Kn 38 [(0, v64 tick1), (3, .pointer (some ⟨g35, 0, none⟩)), (33, vB t40)] a ∧ Mem w [] w42 [.box g35 34 (y30.cs), .box g8 24 (b2.cs)] ∧ YB t40 = some r) ?_ ?_
  ·refine KC.region (RL.val (O.fldA fl34_0 (by decide) rfl) rfl ?_)
   refine RL.val (O.load sc3 rfl (Cs.adds [0] ((hM.bx (i := 2) rfl)) rfl)) rfl (RL.val (O.lss rfl rfl) rfl (vm rfl rfl ?_))
   refine RL.bcase (t := 9) rfl (fun hc => ?_) (fun hc => ?_)
   ·rw [if_pos hc] at hF
    refine RL.brun1 24 33 true (by kernel_rfl) ?_
    refine RL.nil (KQ.Xy ?_)
    replace hM := hM.pick [2, 1] rfl (by decide)
    exact fun a ha => ⟨true, ha.less (Xa rfl (Xa rfl (Xa rfl Xj))), hM, hF⟩
   rw [if_neg (Xv hc)] at hF
   refine RL.gval rfl rfl (O.fldA fl34_0 (by decide) rfl) rfl ?_
   refine RL.gval rfl rfl (O.load sc3 rfl (Cs.adds [0] ((hM.bx (i := 2) rfl)) rfl)) rfl (RL.gval rfl rfl (O.gtr rfl rfl) rfl (RL.val (O.pickf rfl rfl) rfl (vm rfl rfl ?_)))
   refine RL.bcase (t := 14) rfl (fun hc => ?_) (fun hc => ?_)
   ·rw [if_pos hc] at hF
    refine RL.brun1 19 33 true (by kernel_rfl) ?_
    refine RL.nil (KQ.Xy ?_)
    replace hM := hM.pick [2, 1] rfl (by decide)
    exact fun a ha => ⟨true, ha.less (Xa rfl (Xa rfl (Xa rfl Xj))), hM, hF⟩
   rw [if_neg (Xv hc)] at hF
   refine RL.gval rfl rfl (O.fldA fl34_1 (by decide) rfl) rfl ?_
   refine RL.gval rfl rfl (O.load sc22 rfl (Cs.adds [1] ((hM.bx (i := 2) rfl)) rfl)) rfl (RL.gval rfl rfl (O.eql rfl rfl) rfl (RL.val (O.pickf rfl rfl) rfl (vm rfl rfl ?_)))
   refine RL.bcase (t := 19) rfl (fun hc => ?_) (fun hc => ?_)
   ·rw [if_pos hc] at hF
    refine RL.brun1 14 33 true (by kernel_rfl) ?_
    refine RL.nil (KQ.Xy ?_)
    replace hM := hM.pick [2, 1] rfl (by decide)
    exact fun a ha => ⟨true, ha.less (Xa rfl (Xa rfl (Xa rfl Xj))), hM, hF⟩
   rw [if_neg (Xv hc)] at hF
   refine RL.gval rfl rfl (O.fldA fl34_2 (by decide) rfl) rfl ?_
   refine RL.gval rfl rfl (O.load sc22 rfl (Cs.adds [2] ((hM.bx (i := 2) rfl)) rfl)) rfl (RL.gval rfl rfl (O.eql rfl rfl) rfl (RL.val (O.pickf rfl rfl) rfl (vm rfl rfl ?_)))
   refine RL.bcase (t := 24) rfl (fun hc => ?_) (fun hc => ?_)
   ·rw [if_pos hc] at hF
    refine RL.brun1 9 33 true (by kernel_rfl) ?_
    refine RL.nil (KQ.Xy ?_)
    replace hM := hM.pick [2, 1] rfl (by decide)
    exact fun a ha => ⟨true, ha.less (Xa rfl (Xa rfl (Xa rfl Xj))), hM, hF⟩
   rw [if_neg (Xv hc)] at hF
   refine RL.gval rfl rfl (O.fldA fl34_3 (by decide) rfl) rfl ?_
   refine RL.gval rfl rfl (O.load sc22 rfl (Cs.adds [3] ((hM.bx (i := 2) rfl)) rfl)) rfl (RL.gval rfl rfl (O.eql rfl rfl) rfl (RL.val (O.pickf rfl rfl) rfl (vm rfl rfl ?_)))
   refine RL.bcase (t := 29) rfl (fun hc => ?_) (fun hc => ?_)
   ·rw [if_pos hc] at hF
    refine RL.brun1 4 33 true (by kernel_rfl) ?_
    refine RL.nil (KQ.Xy ?_)
    replace hM := hM.pick [2, 1] rfl (by decide)
    exact fun a ha => ⟨true, ha.less (Xa rfl (Xa rfl (Xa rfl Xj))), hM, hF⟩
   rw [if_neg (Xv hc)] at hF
   refine RL.gval rfl rfl (O.fldA fl34_4 (by decide) rfl) rfl ?_
   refine RL.gval rfl rfl (O.load sc22 rfl (Cs.adds [4] ((hM.bx (i := 2) rfl)) rfl)) rfl (RL.gval rfl rfl (O.eql rfl rfl) rfl (RL.val (O.pickf rfl rfl) rfl (RL.nil (KQ.Xy ?_))))
   replace hM := hM.pick [2, 1] rfl (by decide)
   exact fun a ha => ⟨(y30.Xr == 0), ha.less (Xa rfl (Xa rfl (Xa rfl Xj))), hM, hF⟩
  rintro a w42 ⟨t40, ha, hM, hF⟩
  refine KC.app ha ?_
  clear ha
  unfold YB at hF
  refine KC.cond rfl (fun hc => ?_) (fun hc => ?_)
  ·rw [if_pos hc] at hF
   refine sr fun Q43 hQ43 => ?_
   refine va rfl rfl (va rfl rfl (nt hQ43 (KC.ret (KQ.thr hQ38 (KQ.rets Tryz.results7 (RVs.cons (RV.tm rfl) (RVs.cons (RV.tm rfl) RVs.nil)) (⟨.tuple #[.pointer none, vI 2], rfl, ?_⟩))))))
   refine vm rfl rfl (RL.val (O.ext rfl rfl) rfl (RL.val (O.ext rfl rfl) rfl (va rfl rfl (va rfl rfl (nt hQ29 ?_)))))
   replace hM := hM.pick [] rfl (by decide)
   refine KC.seqH fun Q44 hQ44 => ?_
   refine KC.cut (fun a w45 => Kn 75 [(2, .slice A4 (lv3).length c5), (7, .pointer none), (8, vI 2), (9, .pointer none), (38, vB (!(true == true)))] a ∧ Mem w [] w45 [] ∧ KA = some r) ?_ ?_
   ·refine KC.region (vm rfl rfl (vm rfl rfl (RL.val (O.neq rfl rfl) rfl (vm rfl rfl (RL.gval rfl rfl (O.move rfl) rfl (RL.gval rfl rfl (O.peqn Tryz.underlying27 rfl rfl) rfl ?_))))))
    refine RL.gval rfl rfl (O.move rfl) rfl (RL.gval rfl rfl (O.neq rfl rfl) rfl (RL.gval rfl rfl (O.neqb Tryz.underlying4 rfl rfl) rfl (RL.val (O.pickf rfl rfl) rfl (RL.nil (KQ.Xy ?_)))))
    exact fun a ha => ⟨ha.less (Xa rfl (Xa rfl (Xa rfl (Xa rfl (Xa rfl Xj))))), hM, hF⟩
   rintro a w45 ⟨ha, hM, hF⟩
   refine KC.app ha ?_
   clear ha
   unfold KA at hF
   refine KC.cond rfl (fun hc => ?_) (fun hc => ?_)
   ·rw [if_pos hc] at hF
    refine sr fun Q46 hQ46 => ?_
    refine va rfl rfl (nt hQ46 (KC.ret (KQ.thr hQ44 ?_)))
    have hE := Option.some.inj hF
    clear hF
    subst hE
    refine KQ.rets Tryz.results3 (RVs.cons (RV.tm rfl) RVs.nil) ?_
    exact ⟨_, rfl, rfl, hM⟩
   rw [if_neg (Xv hc)] at hF
   refine KC.skip (KQ.thn hQ44 ?_)
   refine KC.seqH fun Q47 hQ47 => ?_
   refine sr fun Q48 hQ48 => ?_
   refine vm rfl rfl (RL.val (O.neq rfl rfl) rfl (nt hQ48 (KC.condT rfl ?_)))
   refine sr fun Q49 hQ49 => ?_
   refine Xx hF fun y50 hx51 hF => ?_
   refine RL.call Tryz.func5 bd5 rfl rfl (YR _ _ hx51) fun v w52 hv => ?_
   obtain ⟨rfl, hN53⟩ := hv
   replace hM := hM.call0 hN53
   refine va rfl rfl (nt hQ49 (KC.ret (KQ.thr hQ47 ?_)))
   have hE := Option.some.inj hF
   clear hF
   subst hE
   refine KQ.rets Tryz.results3 (RVs.cons (RV.tm rfl) RVs.nil) ?_
   exact ⟨_, rfl, rfl, hM⟩
  rw [if_neg (Xv hc)] at hF
  refine KC.skip (KQ.thn hQ38 ?_)
  refine sr fun Q54 hQ54 => ?_
  refine vm rfl rfl (RL.val (O.loadN (cs := (y30.cs)) ag34 rfl (Cs.addsN [] ((hM.bx (i := 0) rfl)) rfl)) rfl (RL.val (O.bld (cs := (v64 tick1 :: (y30.cs ++ [.slice none 0 0]))) bt72 rfl (by kernel_rfl)) rfl ?_))
  refine RL.eff (E.box (vs := (v64 tick1 :: (y30.cs ++ [.slice none 0 0]))) hM rfl rfl) rfl fun v w56 hv => ?_
  clear hM
  obtain ⟨g55, rfl, hM, hf⟩ := hv
  refine va rfl rfl (va rfl rfl (nt hQ54 (KC.ret (KQ.rets Tryz.results7 (RVs.cons (RV.tm rfl) (RVs.cons (RV.tm rfl) RVs.nil)) (⟨.tuple #[.pointer (some ⟨g55, 0, none⟩), vI 0], rfl, ?_⟩)))))
  refine vm rfl rfl (RL.val (O.ext rfl rfl) rfl (RL.val (O.ext rfl rfl) rfl (va rfl rfl (va rfl rfl (nt hQ29 ?_)))))
  replace hM := hM.pick [2] rfl (by decide)
  refine KC.seqH fun Q58 hQ58 => ?_
  refine KC.cut (fun a w60 => Kn 75 [(2, .slice A4 (lv3).length c5), (7, .pointer none), (8, vI 2), (9, .pointer (some ⟨g55, 0, none⟩)), (38, vB true)] a ∧ Mem w [] w60 [.box g55 72 (v64 tick1 :: (y30.cs ++ [.slice none 0 0]))] ∧ UF = some r) ?_ ?_
  ·refine KC.region (vm rfl rfl (vm rfl rfl (RL.val (O.neq rfl rfl) rfl (RL.brun1 7 38 true (by kernel_rfl) ?_))))
   refine RL.nil (KQ.Xy ?_)
   exact fun a ha => ⟨ha.less (Xa rfl (Xa rfl (Xa rfl (Xa rfl (Xa rfl Xj))))), hM, hF⟩
  rintro a w60 ⟨ha, hM, hF⟩
  refine KC.app ha ?_
  clear ha
  unfold UF at hF
  refine KC.condT rfl ?_
  refine sr fun Q61 hQ61 => ?_
  refine va rfl rfl (nt hQ61 (KC.ret (KQ.thr hQ58 ?_)))
  have hE := Option.some.inj hF
  clear hF
  subst hE
  replace hM := hM.pick [] rfl (by decide)
  refine KQ.rets Tryz.results3 (RVs.cons (RV.tm rfl) RVs.nil) ?_
  exact ⟨_, rfl, rfl, hM⟩
 rw [if_neg (Xv hc)] at hF
 refine KC.skip (KQ.thn hQ23 ?_)
 refine sr fun Q62 hQ62 => ?_
 refine RL.val (O.fldA fl24_0 (by decide) rfl) rfl ?_
 refine RL.val (O.load sc3 rfl (Cs.adds [0] ((hM.bx (i := 0) rfl)) rfl)) rfl (RL.val (O.conv un3 Tryz.underlying67 rfl) rfl ?_)
 refine Xx hF fun y63 hx64 hF => ?_
 refine RL.call Tryz.func20 bd20 rfl rfl (Kk _ (IntKind.u64.wrap b2.Xz) _ hx64) fun v w65 hv => ?_
 obtain ⟨rfl, hN66⟩ := hv
 replace hM := hM.call0 hN66
 refine XZ hF fun hq67 hF => ?_
 refine RL.val (O.shl rfl rfl (of_decide_eq_true hq67)) rfl (RL.icall Tryz.func19 bd19 rfl rfl rfl Tryz.ntmps19 rfl ?_)
 refine sr fun Q68 hQ68 => ?_
 refine va rfl rfl (va rfl rfl (nt hQ68 ?_))
 refine KC.seqH fun Q69 hQ69 => ?_
 refine KC.cut (fun a w73 => ∃ (t70 : Bool), Kn 21 [(0, vI (Ox.shl .i64 1 y63)), (16, vB t70)] a ∧ Mem w [] w73 [.box g8 24 (b2.cs), .box g20 24 (b2.cs)] ∧ Zu tick1 b2 lv3 y63 t70 = some r) ?_ ?_
 ·refine KC.region (vm rfl rfl (RL.val (O.lss rfl rfl) rfl (vm rfl rfl ?_)))
  refine RL.bcase (t := 6) rfl (fun hc => ?_) (fun hc => ?_)
  ·rw [if_pos hc] at hF
   refine RL.brun1 10 16 true (by kernel_rfl) ?_
   refine RL.nil (KQ.Xy ?_)
   replace hM := hM.pick [1, 0] rfl (by decide)
   exact fun a ha => ⟨true, ha.less (Xa rfl (Xa rfl Xj)), hM, hF⟩
  rw [if_neg (Xv hc)] at hF
  refine RL.gval rfl rfl (O.move rfl) rfl (RL.gval rfl rfl (O.gtr rfl rfl) rfl (RL.val (O.pickf rfl rfl) rfl (vm rfl rfl ?_)))
  refine RL.bcase (t := 10) rfl (fun hc => ?_) (fun hc => ?_)
  ·rw [if_pos hc] at hF
   refine RL.brun1 6 16 true (by kernel_rfl) ?_
   refine RL.nil (KQ.Xy ?_)
   replace hM := hM.pick [1, 0] rfl (by decide)
   exact fun a ha => ⟨true, ha.less (Xa rfl (Xa rfl Xj)), hM, hF⟩
  rw [if_neg (Xv hc)] at hF
  refine RL.gval rfl rfl (O.move rfl) rfl (RL.gval rfl rfl (O.move rfl) rfl (RL.gval rfl rfl (O.sub rfl rfl) rfl (RL.gval rfl rfl (O.and rfl rfl) rfl (RL.gval rfl rfl (O.neq rfl rfl) rfl (RL.val (O.pickf rfl rfl) rfl (RL.nil ?_))))))
  refine KQ.Xy ?_
  replace hM := hM.pick [1, 0] rfl (by decide)
  exact fun a ha => ⟨((bits .and .i64 (Ox.shl .i64 1 y63) (IntKind.i64.wrap ((Ox.shl .i64 1 y63) - 1))) != 0), ha.less (Xa rfl (Xa rfl Xj)), hM, hF⟩
 rintro a w73 ⟨t70, ha, hM, hF⟩
 refine KC.app ha ?_
 clear ha
 unfold Zu at hF
 refine KC.cond rfl (fun hc => ?_) (fun hc => ?_)
 ·rw [if_pos hc] at hF
  refine sr fun Q74 hQ74 => ?_
  refine va rfl rfl (va rfl rfl (nt hQ74 (KC.ret (KQ.thr hQ69 (KQ.rets Tryz.results19 (RVs.cons (RV.tm rfl) (RVs.cons (RV.tm rfl) RVs.nil)) (⟨.tuple #[.pointer none, vI 2], rfl, ?_⟩))))))
  refine vm rfl rfl (RL.val (O.ext rfl rfl) rfl (RL.val (O.ext rfl rfl) rfl (va rfl rfl (va rfl rfl (nt hQ62 ?_)))))
  refine KC.seqH fun Q75 hQ75 => ?_
  refine sr fun Q76 hQ76 => ?_
  refine vm rfl rfl (RL.val (O.neq rfl rfl) rfl (nt hQ76 (KC.condT rfl ?_)))
  refine sr fun Q77 hQ77 => ?_
  refine vm rfl rfl (va rfl rfl (va rfl rfl (nt hQ77 (KC.ret (KQ.thr hQ75 (KQ.rets Tryz.results6 (RVs.cons (RV.tm rfl) (RVs.cons (RV.tm rfl) RVs.nil)) ?_))))))
  refine ⟨.tuple #[.pointer none, vI 2], rfl, ?_⟩
  refine vm rfl rfl (RL.val (O.ext rfl rfl) rfl (RL.val (O.ext rfl rfl) rfl (va rfl rfl (va rfl rfl (nt hQ18 ?_)))))
  refine sr fun Q78 hQ78 => ?_
  refine vm rfl rfl (RL.val (O.loadN (cs := (b2.cs)) ag24 rfl (Cs.addsN [] ((hM.bx (i := 0) rfl)) rfl)) rfl ?_)
  refine Xx hF fun y79 hx80 hF => ?_
  refine RL.call Tryz.func8 bd8 rfl rfl (V9 _ b2 _ hx80) fun v w81 hv => ?_
  obtain ⟨rfl, hN82⟩ := hv
  replace hM := hM.call0 hN82
  refine RL.icall Tryz.func7 bd7 rfl rfl rfl Tryz.ntmps7 rfl ?_
  refine sr fun Q83 hQ83 => ?_
  refine RL.eff (E.box (vs := (y79.cs)) hM rfl rfl) rfl fun v w85 hv => ?_
  clear hM
  obtain ⟨g84, rfl, hM, hf⟩ := hv
  refine va rfl rfl (va rfl rfl (nt hQ83 ?_))
  refine KC.seqH fun Q87 hQ87 => ?_
  refine KC.cut (fun a w91 => ∃ (t89 : Bool), Kn 38 [(0, v64 tick1), (3, .pointer (some ⟨g84, 0, none⟩)), (33, vB t89)] a ∧ Mem w [] w91 [.box g84 34 (y79.cs), .box g8 24 (b2.cs)] ∧ Y3 t89 = some r) ?_ ?_
  ·refine KC.region (RL.val (O.fldA fl34_0 (by decide) rfl) rfl ?_)
   refine RL.val (O.load sc3 rfl (Cs.adds [0] ((hM.bx (i := 2) rfl)) rfl)) rfl (RL.val (O.lss rfl rfl) rfl (vm rfl rfl ?_))
   refine RL.bcase (t := 9) rfl (fun hc => ?_) (fun hc => ?_)
   ·rw [if_pos hc] at hF
    refine RL.brun1 24 33 true (by kernel_rfl) ?_
    refine RL.nil (KQ.Xy ?_)
    replace hM := hM.pick [2, 0] rfl (by decide)
    exact fun a ha => ⟨true, ha.less (Xa rfl (Xa rfl (Xa rfl Xj))), hM, hF⟩
   rw [if_neg (Xv hc)] at hF
   refine RL.gval rfl rfl (O.fldA fl34_0 (by decide) rfl) rfl ?_
   refine RL.gval rfl rfl (O.load sc3 rfl (Cs.adds [0] ((hM.bx (i := 2) rfl)) rfl)) rfl (RL.gval rfl rfl (O.gtr rfl rfl) rfl (RL.val (O.pickf rfl rfl) rfl (vm rfl rfl ?_)))
   refine RL.bcase (t := 14) rfl (fun hc => ?_) (fun hc => ?_)
   ·rw [if_pos hc] at hF
    refine RL.brun1 19 33 true (by kernel_rfl) ?_
    refine RL.nil (KQ.Xy ?_)
    replace hM := hM.pick [2, 0] rfl (by decide)
    exact fun a ha => ⟨true, ha.less (Xa rfl (Xa rfl (Xa rfl Xj))), hM, hF⟩
   rw [if_neg (Xv hc)] at hF
   refine RL.gval rfl rfl (O.fldA fl34_1 (by decide) rfl) rfl ?_
   refine RL.gval rfl rfl (O.load sc22 rfl (Cs.adds [1] ((hM.bx (i := 2) rfl)) rfl)) rfl (RL.gval rfl rfl (O.eql rfl rfl) rfl (RL.val (O.pickf rfl rfl) rfl (vm rfl rfl ?_)))
   refine RL.bcase (t := 19) rfl (fun hc => ?_) (fun hc => ?_)
   ·rw [if_pos hc] at hF
    refine RL.brun1 14 33 true (by kernel_rfl) ?_
    refine RL.nil (KQ.Xy ?_)
    replace hM := hM.pick [2, 0] rfl (by decide)
    exact fun a ha => ⟨true, ha.less (Xa rfl (Xa rfl (Xa rfl Xj))), hM, hF⟩
   rw [if_neg (Xv hc)] at hF
   refine RL.gval rfl rfl (O.fldA fl34_2 (by decide) rfl) rfl ?_
   refine RL.gval rfl rfl (O.load sc22 rfl (Cs.adds [2] ((hM.bx (i := 2) rfl)) rfl)) rfl (RL.gval rfl rfl (O.eql rfl rfl) rfl (RL.val (O.pickf rfl rfl) rfl (vm rfl rfl ?_)))
   refine RL.bcase (t := 24) rfl (fun hc => ?_) (fun hc => ?_)
   ·rw [if_pos hc] at hF
    refine RL.brun1 9 33 true (by kernel_rfl) ?_
    refine RL.nil (KQ.Xy ?_)
    replace hM := hM.pick [2, 0] rfl (by decide)
    exact fun a ha => ⟨true, ha.less (Xa rfl (Xa rfl (Xa rfl Xj))), hM, hF⟩
   rw [if_neg (Xv hc)] at hF
   refine RL.gval rfl rfl (O.fldA fl34_3 (by decide) rfl) rfl ?_
   refine RL.gval rfl rfl (O.load sc22 rfl (Cs.adds [3] ((hM.bx (i := 2) rfl)) rfl)) rfl (RL.gval rfl rfl (O.eql rfl rfl) rfl (RL.val (O.pickf rfl rfl) rfl (vm rfl rfl ?_)))
   refine RL.bcase (t := 29) rfl (fun hc => ?_) (fun hc => ?_)
   ·rw [if_pos hc] at hF
    refine RL.brun1 4 33 true (by kernel_rfl) ?_
    refine RL.nil (KQ.Xy ?_)
    replace hM := hM.pick [2, 0] rfl (by decide)
    exact fun a ha => ⟨true, ha.less (Xa rfl (Xa rfl (Xa rfl Xj))), hM, hF⟩
   rw [if_neg (Xv hc)] at hF
   refine RL.gval rfl rfl (O.fldA fl34_4 (by decide) rfl) rfl ?_
   refine RL.gval rfl rfl (O.load sc22 rfl (Cs.adds [4] ((hM.bx (i := 2) rfl)) rfl)) rfl (RL.gval rfl rfl (O.eql rfl rfl) rfl (RL.val (O.pickf rfl rfl) rfl (RL.nil (KQ.Xy ?_))))
   replace hM := hM.pick [2, 0] rfl (by decide)
   exact fun a ha => ⟨(y79.Xr == 0), ha.less (Xa rfl (Xa rfl (Xa rfl Xj))), hM, hF⟩
  rintro a w91 ⟨t89, ha, hM, hF⟩
  refine KC.app ha ?_
  clear ha
  unfold Y3 at hF
  refine KC.cond rfl (fun hc => ?_) (fun hc => ?_)
  ·rw [if_pos hc] at hF
   refine sr fun Q92 hQ92 => ?_
   refine va rfl rfl (va rfl rfl (nt hQ92 (KC.ret (KQ.thr hQ87 (KQ.rets Tryz.results7 (RVs.cons (RV.tm rfl) (RVs.cons (RV.tm rfl) RVs.nil)) (⟨.tuple #[.pointer none, vI 2], rfl, ?_⟩))))))
   refine vm rfl rfl (RL.val (O.ext rfl rfl) rfl (RL.val (O.ext rfl rfl) rfl (va rfl rfl (va rfl rfl (nt hQ78 ?_)))))
   replace hM := hM.pick [] rfl (by decide)
   refine KC.seqH fun Q93 hQ93 => ?_
   refine KC.cut (fun a w94 => Kn 75 [(2, .slice A4 (lv3).length c5), (7, .pointer none), (8, vI 2), (9, .pointer none), (38, vB (!(true == true)))] a ∧ Mem w [] w94 [] ∧ UP = some r) ?_ ?_
   ·refine KC.region (vm rfl rfl (vm rfl rfl (RL.val (O.neq rfl rfl) rfl (vm rfl rfl (RL.gval rfl rfl (O.move rfl) rfl (RL.gval rfl rfl (O.peqn Tryz.underlying27 rfl rfl) rfl ?_))))))
    refine RL.gval rfl rfl (O.move rfl) rfl (RL.gval rfl rfl (O.neq rfl rfl) rfl (RL.gval rfl rfl (O.neqb Tryz.underlying4 rfl rfl) rfl (RL.val (O.pickf rfl rfl) rfl (RL.nil (KQ.Xy ?_)))))
    exact fun a ha => ⟨ha.less (Xa rfl (Xa rfl (Xa rfl (Xa rfl (Xa rfl Xj))))), hM, hF⟩
   rintro a w94 ⟨ha, hM, hF⟩
   refine KC.app ha ?_
   clear ha
   unfold UP at hF
   refine KC.cond rfl (fun hc => ?_) (fun hc => ?_)
   ·rw [if_pos hc] at hF
    refine sr fun Q95 hQ95 => ?_
    refine va rfl rfl (nt hQ95 (KC.ret (KQ.thr hQ93 ?_)))
    have hE := Option.some.inj hF
    clear hF
    subst hE
    refine KQ.rets Tryz.results3 (RVs.cons (RV.tm rfl) RVs.nil) ?_
    exact ⟨_, rfl, rfl, hM⟩
   rw [if_neg (Xv hc)] at hF
   refine KC.skip (KQ.thn hQ93 ?_)
   refine KC.seqH fun Q96 hQ96 => ?_
   refine sr fun Q97 hQ97 => ?_
   refine vm rfl rfl (RL.val (O.neq rfl rfl) rfl (nt hQ97 (KC.condT rfl ?_)))
   refine sr fun Q98 hQ98 => ?_
   refine Xx hF fun y99 hx100 hF => ?_
   refine RL.call Tryz.func5 bd5 rfl rfl (YR _ _ hx100) fun v w101 hv => ?_
   obtain ⟨rfl, hN102⟩ := hv
   replace hM := hM.call0 hN102
   refine va rfl rfl (nt hQ98 (KC.ret (KQ.thr hQ96 ?_)))
   have hE := Option.some.inj hF
   clear hF
   subst hE
   refine KQ.rets Tryz.results3 (RVs.cons (RV.tm rfl) RVs.nil) ?_
   exact ⟨_, rfl, rfl, hM⟩
  rw [if_neg (Xv hc)] at hF
  refine KC.skip (KQ.thn hQ87 ?_)
  refine sr fun Q103 hQ103 => ?_
  refine vm rfl rfl (RL.val (O.loadN (cs := (y79.cs)) ag34 rfl (Cs.addsN [] ((hM.bx (i := 0) rfl)) rfl)) rfl (RL.val (O.bld (cs := (v64 tick1 :: (y79.cs ++ [.slice none 0 0]))) bt72 rfl (by kernel_rfl)) rfl ?_))
  refine RL.eff (E.box (vs := (v64 tick1 :: (y79.cs ++ [.slice none 0 0]))) hM rfl rfl) rfl fun v w105 hv => ?_
  clear hM
  obtain ⟨g104, rfl, hM, hf⟩ := hv
  refine va rfl rfl (va rfl rfl (nt hQ103 (KC.ret (KQ.rets Tryz.results7 (RVs.cons (RV.tm rfl) (RVs.cons (RV.tm rfl) RVs.nil)) (⟨.tuple #[.pointer (some ⟨g104, 0, none⟩), vI 0], rfl, ?_⟩)))))
  refine vm rfl rfl (RL.val (O.ext rfl rfl) rfl (RL.val (O.ext rfl rfl) rfl (va rfl rfl (va rfl rfl (nt hQ78 ?_)))))
  replace hM := hM.pick [2] rfl (by decide)
  refine KC.seqH fun Q107 hQ107 => ?_
  refine KC.cut (fun a w109 => Kn 75 [(2, .slice A4 (lv3).length c5), (7, .pointer none), (8, vI 2), (9, .pointer (some ⟨g104, 0, none⟩)), (38, vB true)] a ∧ Mem w [] w109 [.box g104 72 (v64 tick1 :: (y79.cs ++ [.slice none 0 0]))] ∧ Ux = some r) ?_ ?_
  ·refine KC.region (vm rfl rfl (vm rfl rfl (RL.val (O.neq rfl rfl) rfl (RL.brun1 7 38 true (by kernel_rfl) ?_))))
   refine RL.nil (KQ.Xy ?_)
   exact fun a ha => ⟨ha.less (Xa rfl (Xa rfl (Xa rfl (Xa rfl (Xa rfl Xj))))), hM, hF⟩
  rintro a w109 ⟨ha, hM, hF⟩
  refine KC.app ha ?_
  clear ha
  unfold Ux at hF
  refine KC.condT rfl ?_
  refine sr fun Q110 hQ110 => ?_
  refine va rfl rfl (nt hQ110 (KC.ret (KQ.thr hQ107 ?_)))
  have hE := Option.some.inj hF
  clear hF
  subst hE
  replace hM := hM.pick [] rfl (by decide)
  refine KQ.rets Tryz.results3 (RVs.cons (RV.tm rfl) RVs.nil) ?_
  exact ⟨_, rfl, rfl, hM⟩
 rw [if_neg (Xv hc)] at hF
 refine KC.skip (KQ.thn hQ69 ?_)
 refine sr fun Q111 hQ111 => ?_
 refine vm rfl rfl ?_
 refine XZ hF fun hq114 hF => ?_
 refine RL.eff (E.mks (enc := Xt) (zr := (Xm.mk false (Xe.mk (Xd.mk false (List.replicate 16 0)) (Xd.mk false (List.replicate 16 0)) 0 0 0) 0)) hM sl117 ze140 rfl rfl (fun _ => rfl) rfl rfl rfl (of_decide_eq_true hq114)) rfl fun v w113 hv => ?_
 clear hM
 obtain ⟨A112, rfl, hM, hf⟩ := hv
 refine RL.val (O.bld (cs := [.slice A112 ((List.replicate (Int.toNat (Ox.shl .i64 1 y63)) ((Xm.mk false (Xe.mk (Xd.mk false (List.replicate 16 0)) (Xd.mk false (List.replicate 16 0)) 0 0 0) 0) : Xm))).length (Int.toNat (Ox.shl .i64 1 y63)), vI 0]) bt119 rfl (by kernel_rfl)) rfl ?_
 refine RL.eff (E.box (vs := [.slice A112 ((List.replicate (Int.toNat (Ox.shl .i64 1 y63)) ((Xm.mk false (Xe.mk (Xd.mk false (List.replicate 16 0)) (Xd.mk false (List.replicate 16 0)) 0 0 0) 0) : Xm))).length (Int.toNat (Ox.shl .i64 1 y63)), vI 0]) hM rfl rfl) rfl fun v w117 hv => ?_
 clear hM
 obtain ⟨g116, rfl, hM, hf⟩ := hv
 refine va rfl rfl (va rfl rfl (nt hQ111 (KC.ret (KQ.rets Tryz.results19 (RVs.cons (RV.tm rfl) (RVs.cons (RV.tm rfl) RVs.nil)) (⟨.tuple #[.pointer (some ⟨g116, 0, none⟩), vI 0], rfl, ?_⟩)))))
 refine vm rfl rfl (RL.val (O.ext rfl rfl) rfl (RL.val (O.ext rfl rfl) rfl (va rfl rfl (va rfl rfl (nt hQ62 ?_)))))
 refine KC.seqH fun Q119 hQ119 => ?_
 refine sr fun Q120 hQ120 => ?_
 refine vm rfl rfl (RL.val (O.neq rfl rfl) rfl (nt hQ120 (KC.condF rfl (KC.skip (KQ.thn hQ119 ?_)))))
 refine sr fun Q121 hQ121 => ?_
 refine vm rfl rfl (RL.val (O.loadN (cs := (b2.cs)) ag24 rfl (Cs.addsN [] ((hM.bx (i := 1) rfl)) rfl)) rfl (vm rfl rfl (RL.val (O.bld (cs := (v64 tick1 :: (b2.cs ++ [.pointer (some ⟨g116, 0, none⟩), .slice none 0 0]))) bt69 rfl (by kernel_rfl)) rfl ?_)))
 refine RL.eff (E.box (vs := (v64 tick1 :: (b2.cs ++ [.pointer (some ⟨g116, 0, none⟩), .slice none 0 0]))) hM rfl rfl) rfl fun v w123 hv => ?_
 clear hM
 obtain ⟨g122, rfl, hM, hf⟩ := hv
 refine va rfl rfl (va rfl rfl (nt hQ121 (KC.ret (KQ.rets Tryz.results6 (RVs.cons (RV.tm rfl) (RVs.cons (RV.tm rfl) RVs.nil)) (⟨.tuple #[.pointer (some ⟨g122, 0, none⟩), vI 0], rfl, ?_⟩)))))
 refine vm rfl rfl (RL.val (O.ext rfl rfl) rfl (RL.val (O.ext rfl rfl) rfl (va rfl rfl (va rfl rfl (nt hQ18 ?_)))))
 replace hM := hM.pick [0, 2, 3, 4] rfl (by decide)
 refine sr fun Q125 hQ125 => ?_
 refine vm rfl rfl (RL.val (O.loadN (cs := (b2.cs)) ag24 rfl (Cs.addsN [] ((hM.bx (i := 0) rfl)) rfl)) rfl ?_)
 refine Xx hF fun y126 hx127 hF => ?_
 refine RL.call Tryz.func8 bd8 rfl rfl (V9 _ b2 _ hx127) fun v w128 hv => ?_
 obtain ⟨rfl, hN129⟩ := hv
 replace hM := hM.call0 hN129
 refine RL.icall Tryz.func7 bd7 rfl rfl rfl Tryz.ntmps7 rfl ?_
 refine sr fun Q130 hQ130 => ?_
 refine RL.eff (E.box (vs := (y126.cs)) hM rfl rfl) rfl fun v w132 hv => ?_
 clear hM
 obtain ⟨g131, rfl, hM, hf⟩ := hv
 refine va rfl rfl (va rfl rfl (nt hQ130 ?_))
 refine KC.seqH fun Q134 hQ134 => ?_
 refine KC.cut (fun a w141 => ∃ (t136 : Bool), Kn 38 [(0, v64 tick1), (3, .pointer (some ⟨g131, 0, none⟩)), (33, vB t136)] a ∧ Mem w [] w141 [.box g131 34 (y126.cs), .box g8 24 (b2.cs), .row A112 (Int.toNat (Ox.shl .i64 1 y63)) 140 39 ((List.replicate (Int.toNat (Ox.shl .i64 1 y63)) ((Xm.mk false (Xe.mk (Xd.mk false (List.replicate 16 0)) (Xd.mk false (List.replicate 16 0)) 0 0 0) 0) : Xm))).length (((List.replicate (Int.toNat (Ox.shl .i64 1 y63)) ((Xm.mk false (Xe.mk (Xd.mk false (List.replicate 16 0)) (Xd.mk false (List.replicate 16 0)) 0 0 0) 0) : Xm))).flatMap Xt), .box g116 119 [.slice A112 ((List.replicate (Int.toNat (Ox.shl .i64 1 y63)) ((Xm.mk false (Xe.mk (Xd.mk false (List.replicate 16 0)) (Xd.mk false (List.replicate 16 0)) 0 0 0) 0) : Xm))).length (Int.toNat (Ox.shl .i64 1 y63)), vI 0], .box g122 69 (v64 tick1 :: (b2.cs ++ [.pointer (some ⟨g116, 0, none⟩), .slice none 0 0]))] ∧ YD tick1 b2 lv3 y63 y126 t136 = some r) ?_ ?_
 ·refine KC.region (RL.val (O.fldA fl34_0 (by decide) rfl) rfl ?_)
  refine RL.val (O.load sc3 rfl (Cs.adds [0] ((hM.bx (i := 4) rfl)) rfl)) rfl (RL.val (O.lss rfl rfl) rfl (vm rfl rfl ?_))
  refine RL.bcase (t := 9) rfl (fun hc => ?_) (fun hc => ?_)
  ·rw [if_pos hc] at hF
   refine RL.brun1 24 33 true (by kernel_rfl) ?_
   refine RL.nil (KQ.Xy ?_)
   replace hM := hM.pick [4, 0, 1, 2, 3] rfl (by decide)
   exact fun a ha => ⟨true, ha.less (Xa rfl (Xa rfl (Xa rfl Xj))), hM, hF⟩
  rw [if_neg (Xv hc)] at hF
  refine RL.gval rfl rfl (O.fldA fl34_0 (by decide) rfl) rfl ?_
  refine RL.gval rfl rfl (O.load sc3 rfl (Cs.adds [0] ((hM.bx (i := 4) rfl)) rfl)) rfl (RL.gval rfl rfl (O.gtr rfl rfl) rfl (RL.val (O.pickf rfl rfl) rfl (vm rfl rfl ?_)))
  refine RL.bcase (t := 14) rfl (fun hc => ?_) (fun hc => ?_)
  ·rw [if_pos hc] at hF
   refine RL.brun1 19 33 true (by kernel_rfl) ?_
   refine RL.nil (KQ.Xy ?_)
   replace hM := hM.pick [4, 0, 1, 2, 3] rfl (by decide)
   exact fun a ha => ⟨true, ha.less (Xa rfl (Xa rfl (Xa rfl Xj))), hM, hF⟩
  rw [if_neg (Xv hc)] at hF
  refine RL.gval rfl rfl (O.fldA fl34_1 (by decide) rfl) rfl ?_
  refine RL.gval rfl rfl (O.load sc22 rfl (Cs.adds [1] ((hM.bx (i := 4) rfl)) rfl)) rfl (RL.gval rfl rfl (O.eql rfl rfl) rfl (RL.val (O.pickf rfl rfl) rfl (vm rfl rfl ?_)))
  refine RL.bcase (t := 19) rfl (fun hc => ?_) (fun hc => ?_)
  ·rw [if_pos hc] at hF
   refine RL.brun1 14 33 true (by kernel_rfl) ?_
   refine RL.nil (KQ.Xy ?_)
   replace hM := hM.pick [4, 0, 1, 2, 3] rfl (by decide)
   exact fun a ha => ⟨true, ha.less (Xa rfl (Xa rfl (Xa rfl Xj))), hM, hF⟩
  rw [if_neg (Xv hc)] at hF
  refine RL.gval rfl rfl (O.fldA fl34_2 (by decide) rfl) rfl ?_
  refine RL.gval rfl rfl (O.load sc22 rfl (Cs.adds [2] ((hM.bx (i := 4) rfl)) rfl)) rfl (RL.gval rfl rfl (O.eql rfl rfl) rfl (RL.val (O.pickf rfl rfl) rfl (vm rfl rfl ?_)))
  refine RL.bcase (t := 24) rfl (fun hc => ?_) (fun hc => ?_)
  ·rw [if_pos hc] at hF
   refine RL.brun1 9 33 true (by kernel_rfl) ?_
   refine RL.nil (KQ.Xy ?_)
   replace hM := hM.pick [4, 0, 1, 2, 3] rfl (by decide)
   exact fun a ha => ⟨true, ha.less (Xa rfl (Xa rfl (Xa rfl Xj))), hM, hF⟩
  rw [if_neg (Xv hc)] at hF
  refine RL.gval rfl rfl (O.fldA fl34_3 (by decide) rfl) rfl ?_
  refine RL.gval rfl rfl (O.load sc22 rfl (Cs.adds [3] ((hM.bx (i := 4) rfl)) rfl)) rfl (RL.gval rfl rfl (O.eql rfl rfl) rfl (RL.val (O.pickf rfl rfl) rfl (vm rfl rfl ?_)))
  refine RL.bcase (t := 29) rfl (fun hc => ?_) (fun hc => ?_)
  ·rw [if_pos hc] at hF
   refine RL.brun1 4 33 true (by kernel_rfl) ?_
   refine RL.nil (KQ.Xy ?_)
   replace hM := hM.pick [4, 0, 1, 2, 3] rfl (by decide)
   exact fun a ha => ⟨true, ha.less (Xa rfl (Xa rfl (Xa rfl Xj))), hM, hF⟩
  rw [if_neg (Xv hc)] at hF
  refine RL.gval rfl rfl (O.fldA fl34_4 (by decide) rfl) rfl ?_
  refine RL.gval rfl rfl (O.load sc22 rfl (Cs.adds [4] ((hM.bx (i := 4) rfl)) rfl)) rfl (RL.gval rfl rfl (O.eql rfl rfl) rfl (RL.val (O.pickf rfl rfl) rfl (RL.nil (KQ.Xy ?_))))
  replace hM := hM.pick [4, 0, 1, 2, 3] rfl (by decide)
  exact fun a ha => ⟨(y126.Xr == 0), ha.less (Xa rfl (Xa rfl (Xa rfl Xj))), hM, hF⟩
 rintro a w141 ⟨t136, ha, hM, hF⟩
 refine KC.app ha ?_
 clear ha
 unfold YD at hF
 refine KC.cond rfl (fun hc => ?_) (fun hc => ?_)
 ·rw [if_pos hc] at hF
  refine sr fun Q142 hQ142 => ?_
  refine va rfl rfl (va rfl rfl (nt hQ142 (KC.ret (KQ.thr hQ134 (KQ.rets Tryz.results7 (RVs.cons (RV.tm rfl) (RVs.cons (RV.tm rfl) RVs.nil)) (⟨.tuple #[.pointer none, vI 2], rfl, ?_⟩))))))
  refine vm rfl rfl (RL.val (O.ext rfl rfl) rfl (RL.val (O.ext rfl rfl) rfl (va rfl rfl (va rfl rfl (nt hQ125 ?_)))))
  replace hM := hM.pick [2, 3, 4] rfl (by decide)
  refine KC.seqH fun Q143 hQ143 => ?_
  refine KC.cut (fun a w147 => Kn 75 [(2, .slice A4 (lv3).length c5), (7, .pointer (some ⟨g122, 0, none⟩)), (8, vI 0), (9, .pointer none), (38, vB true)] a ∧ Mem w [] w147 [.row A112 (Int.toNat (Ox.shl .i64 1 y63)) 140 39 ((List.replicate (Int.toNat (Ox.shl .i64 1 y63)) ((Xm.mk false (Xe.mk (Xd.mk false (List.replicate 16 0)) (Xd.mk false (List.replicate 16 0)) 0 0 0) 0) : Xm))).length (((List.replicate (Int.toNat (Ox.shl .i64 1 y63)) ((Xm.mk false (Xe.mk (Xd.mk false (List.replicate 16 0)) (Xd.mk false (List.replicate 16 0)) 0 0 0) 0) : Xm))).flatMap Xt), .box g116 119 [.slice A112 ((List.replicate (Int.toNat (Ox.shl .i64 1 y63)) ((Xm.mk false (Xe.mk (Xd.mk false (List.replicate 16 0)) (Xd.mk false (List.replicate 16 0)) 0 0 0) 0) : Xm))).length (Int.toNat (Ox.shl .i64 1 y63)), vI 0], .box g122 69 (v64 tick1 :: (b2.cs ++ [.pointer (some ⟨g116, 0, none⟩), .slice none 0 0]))] ∧ Ur = some r) ?_ ?_
  ·refine KC.region (vm rfl rfl (vm rfl rfl (RL.val (O.neq rfl rfl) rfl (RL.brun1 7 38 true (by kernel_rfl) ?_))))
   refine RL.nil (KQ.Xy ?_)
   exact fun a ha => ⟨ha.less (Xa rfl (Xa rfl (Xa rfl (Xa rfl (Xa rfl Xj))))), hM, hF⟩
  rintro a w147 ⟨ha, hM, hF⟩
  refine KC.app ha ?_
  clear ha
  unfold Ur at hF
  refine KC.condT rfl ?_
  refine sr fun Q148 hQ148 => ?_
  refine va rfl rfl (nt hQ148 (KC.ret (KQ.thr hQ143 ?_)))
  have hE := Option.some.inj hF
  clear hF
  subst hE
  replace hM := hM.pick [] rfl (by decide)
  refine KQ.rets Tryz.results3 (RVs.cons (RV.tm rfl) RVs.nil) ?_
  exact ⟨_, rfl, rfl, hM⟩
 rw [if_neg (Xv hc)] at hF
 refine KC.skip (KQ.thn hQ134 ?_)
 refine sr fun Q149 hQ149 => ?_
 refine vm rfl rfl (RL.val (O.loadN (cs := (y126.cs)) ag34 rfl (Cs.addsN [] ((hM.bx (i := 0) rfl)) rfl)) rfl (RL.val (O.bld (cs := (v64 tick1 :: (y126.cs ++ [.slice none 0 0]))) bt72 rfl (by kernel_rfl)) rfl ?_))
 refine RL.eff (E.box (vs := (v64 tick1 :: (y126.cs ++ [.slice none 0 0]))) hM rfl rfl) rfl fun v w151 hv => ?_
 clear hM
 obtain ⟨g150, rfl, hM, hf⟩ := hv
 refine va rfl rfl (va rfl rfl (nt hQ149 (KC.ret (KQ.rets Tryz.results7 (RVs.cons (RV.tm rfl) (RVs.cons (RV.tm rfl) RVs.nil)) (⟨.tuple #[.pointer (some ⟨g150, 0, none⟩), vI 0], rfl, ?_⟩)))))
 refine vm rfl rfl (RL.val (O.ext rfl rfl) rfl (RL.val (O.ext rfl rfl) rfl (va rfl rfl (va rfl rfl (nt hQ125 ?_)))))
 replace hM := hM.pick [2, 3, 4, 5] rfl (by decide)
 refine KC.seqH fun Q153 hQ153 => ?_
 refine KC.cut (fun a w158 => Kn 75 [(2, .slice A4 (lv3).length c5), (7, .pointer (some ⟨g122, 0, none⟩)), (8, vI 0), (9, .pointer (some ⟨g150, 0, none⟩)), (38, vB (!(false == false)))] a ∧ Mem w [] w158 [.row A112 (Int.toNat (Ox.shl .i64 1 y63)) 140 39 ((List.replicate (Int.toNat (Ox.shl .i64 1 y63)) ((Xm.mk false (Xe.mk (Xd.mk false (List.replicate 16 0)) (Xd.mk false (List.replicate 16 0)) 0 0 0) 0) : Xm))).length (((List.replicate (Int.toNat (Ox.shl .i64 1 y63)) ((Xm.mk false (Xe.mk (Xd.mk false (List.replicate 16 0)) (Xd.mk false (List.replicate 16 0)) 0 0 0) 0) : Xm))).flatMap Xt), .box g116 119 [.slice A112 ((List.replicate (Int.toNat (Ox.shl .i64 1 y63)) ((Xm.mk false (Xe.mk (Xd.mk false (List.replicate 16 0)) (Xd.mk false (List.replicate 16 0)) 0 0 0) 0) : Xm))).length (Int.toNat (Ox.shl .i64 1 y63)), vI 0], .box g122 69 (v64 tick1 :: (b2.cs ++ [.pointer (some ⟨g116, 0, none⟩), .slice none 0 0])), .box g150 72 (v64 tick1 :: (y126.cs ++ [.slice none 0 0]))] ∧ Kr tick1 b2 lv3 y63 y126 = some r) ?_ ?_
 ·refine KC.region (vm rfl rfl (vm rfl rfl (RL.val (O.neq rfl rfl) rfl (vm rfl rfl (RL.gval rfl rfl (O.move rfl) rfl (RL.gval rfl rfl (O.peqn Tryz.underlying27 rfl rfl) rfl ?_))))))
  refine RL.gval rfl rfl (O.move rfl) rfl (RL.gval rfl rfl (O.neq rfl rfl) rfl (RL.gval rfl rfl (O.neqb Tryz.underlying4 rfl rfl) rfl (RL.val (O.pickf rfl rfl) rfl (RL.nil (KQ.Xy ?_)))))
  exact fun a ha => ⟨ha.less (Xa rfl (Xa rfl (Xa rfl (Xa rfl (Xa rfl Xj))))), hM, hF⟩
 rintro a w158 ⟨ha, hM, hF⟩
 refine KC.app ha ?_
 clear ha
 unfold Kr at hF
 refine KC.cond rfl (fun hc => ?_) (fun hc => ?_)
 ·rw [if_pos hc] at hF
  refine sr fun Q159 hQ159 => ?_
  refine va rfl rfl (nt hQ159 (KC.ret (KQ.thr hQ153 ?_)))
  have hE := Option.some.inj hF
  clear hF
  subst hE
  replace hM := hM.pick [] rfl (by decide)
  refine KQ.rets Tryz.results3 (RVs.cons (RV.tm rfl) RVs.nil) ?_
  exact ⟨_, rfl, rfl, hM⟩
 rw [if_neg (Xv hc)] at hF
 refine KC.skip (KQ.thn hQ153 ?_)
 refine KC.seqH fun Q160 hQ160 => ?_
 refine sr fun Q161 hQ161 => ?_
 refine vm rfl rfl (RL.val (O.neq rfl rfl) rfl (nt hQ161 (KC.condF rfl (KC.skip (KQ.thn hQ160 ?_)))))
 refine KC.seqH fun Q162 hQ162 => ?_
 refine sr fun Q163 hQ163 => ?_
 refine va rfl rfl (nt hQ163 (KC.block ?_))
 refine KC.loop (fun k370 a w368 => ∃ (g346 : Nat) (A348 : Option Addr) (c349 : Nat) (A353 : Option Addr) (c354 : Nat) (A364 : Option Addr) (c365 : Nat) (cv339 cv340 cv341 cv342 cv343 cv344 : Int) (cv350 : List Xm) (cv351 : Int) (cv355 : List Xc) (rv357 rv358 rv359 rv360 rv361 rv362 : Int) (rv366 : List Xi) (i367 : Int), Kn 75 [(2, .slice A4 (lv3).length c5), (7, .pointer (some ⟨g122, 0, none⟩)), (9, .pointer (some ⟨g150, 0, none⟩)), (11, vI i367)] a ∧ Mem w [] w368 [.row A348 c349 140 39 (cv350).length ((cv350).flatMap Xt), .box g346 119 [.slice A348 (cv350).length c349, vI cv351], .row A353 c354 62 44 (cv355).length ((cv355).flatMap Xn), .box g122 69 [v64 cv339, vI cv340, v64 cv341, v64 cv342, v64 cv343, v64 cv344, .pointer (some ⟨g346, 0, none⟩), .slice A353 (cv355).length c354], .row A364 c365 89 44 (rv366).length ((rv366).flatMap Xs), .box g150 72 [v64 rv357, vI rv358, v64 rv359, v64 rv360, v64 rv361, v64 rv362, .slice A364 (rv366).length c365]] ∧ Zr lv3 k370 cv339 cv340 cv341 cv342 cv343 cv344 cv350 cv351 cv355 rv357 rv358 rv359 rv360 rv361 rv362 rv366 i367 = some r) ?_ ?_
 ·replace hM := hM.nilrow 62 44
  replace hM := hM.nilrow 89 44
  replace hM := hM.pick [0, 1, 4, 2, 5, 3] rfl (by decide)
  exact fun a ha => ⟨fuel0, g116, A112, (Int.toNat (Ox.shl .i64 1 y63)), none, 0, none, 0, tick1, b2.Xz, b2.XI, b2.XA, b2.Xk, b2.Xr, (List.replicate (Int.toNat (Ox.shl .i64 1 y63)) ((Xm.mk false (Xe.mk (Xd.mk false (List.replicate 16 0)) (Xd.mk false (List.replicate 16 0)) 0 0 0) 0) : Xm)), 0, ([]), tick1, y126.Xz, y126.XI, y126.XA, y126.Xk, y126.Xr, ([]), 0, ha.less (Xa rfl (Xa rfl (Xa rfl (Xa rfl Xj)))), hM, hF⟩
 rintro k370 a w368 ⟨g346, A348, c349, A353, c354, A364, c365, cv339, cv340, cv341, cv342, cv343, cv344, cv350, cv351, cv355, rv357, rv358, rv359, rv360, rv361, rv362, rv366, i367, ha, hM, hF⟩
 refine KC.app ha ?_
 clear ha
 cases k370 with
 | zero => exact (Yl hF).elim
 | succ k370 =>
 have hF : JG (Zr lv3 k370) lv3 cv339 cv340 cv341 cv342 cv343 cv344 cv350 cv351 cv355 rv357 rv358 rv359 rv360 rv361 rv362 rv366 i367 = some r := hF
 unfold JG at hF
 refine KC.seqH fun Q371 hQ371 => ?_
 refine sr fun Q372 hQ372 => ?_
 refine vm rfl rfl (vm rfl rfl (RL.val (O.len sl25 rfl) rfl (RL.val (O.lss rfl rfl) rfl (nt hQ372 ?_))))
 refine KC.cond rfl (fun hc => ?_) (fun hc => ?_)
 ·rw [if_pos hc] at hF
  refine KC.skip (KQ.thn hQ371 ?_)
  refine KC.seqH fun Q373 hQ373 => ?_
  refine KC.block ?_
  refine KC.cut (fun a w440 => ∃ (g418 : Nat) (A420 : Option Addr) (c421 : Nat) (A425 : Option Addr) (c426 : Nat) (A436 : Option Addr) (c437 : Nat) (cv411 cv412 cv413 cv414 cv415 cv416 : Int) (cv422 : List Xm) (cv423 : Int) (cv427 : List Xc) (rv429 rv430 rv431 rv432 rv433 rv434 : Int) (rv438 : List Xi) (t439 : Bool), Kn 75 [(2, .slice A4 (lv3).length c5), (7, .pointer (some ⟨g122, 0, none⟩)), (9, .pointer (some ⟨g150, 0, none⟩)), (11, vI i367), (67, vB t439)] a ∧ Mem w [] w440 [.row A420 c421 140 39 (cv422).length ((cv422).flatMap Xt), .box g418 119 [.slice A420 (cv422).length c421, vI cv423], .row A425 c426 62 44 (cv427).length ((cv427).flatMap Xn), .box g122 69 [v64 cv411, vI cv412, v64 cv413, v64 cv414, v64 cv415, v64 cv416, .pointer (some ⟨g418, 0, none⟩), .slice A425 (cv427).length c426], .row A436 c437 89 44 (rv438).length ((rv438).flatMap Xs), .box g150 72 [v64 rv429, vI rv430, v64 rv431, v64 rv432, v64 rv433, v64 rv434, .slice A436 (rv438).length c437]] ∧ Jx i367 (Zr lv3 k370) cv411 cv412 cv413 cv414 cv415 cv416 cv422 cv423 cv427 rv429 rv430 rv431 rv432 rv433 rv434 rv438 t439 = some r) ?_ ?_
  ·refine KC.region (vm rfl rfl (vm rfl rfl (vm rfl rfl (vm rfl rfl ?_))))
   refine Xx hF fun xv376 hx375 hF => ?_
   have hA374 := Rd.atN (f := Zw) (s := 43) (fun _ => rfl) (by decide) (hM.inp hr6 Off.nil) hx375
   refine RL.val (O.idxA sl25 (hA374) rfl rfl) rfl (RL.val (O.loadN (cs := (xv376.cs)) ag46 rfl (hA374).cells) rfl ?_)
   refine Xx hF fun y377 hx378 hF => ?_
   refine RL.call Tryz.func9 bd9 rfl rfl (Xbd _ _ _ (Xl.mk cv339 (Xg.mk cv340 cv341 cv342 cv343 cv344) (Xw.mk cv350 cv351) cv355) _ _ _ _ _ _ _ (Xq.mk rv357 (Xg.mk rv358 rv359 rv360 rv361 rv362) rv366) _ _ (hM.lent [3, 1, 0, 2, 5, 4] rfl (by decide)) xv376 _ hx378) fun v w379 hv => ?_
   obtain ⟨g381, A383, c384, A386, c387, A389, c390, rfl, hN380⟩ := hv
   replace hM := hM.callL [3, 1, 0, 2, 5, 4] [] rfl rfl (by decide) rfl hN380
   refine RL.val (O.not rfl) rfl (vm rfl rfl ?_)
   refine RL.bcase (t := 56) rfl (fun hc => ?_) (fun hc => ?_)
   ·rw [if_pos hc] at hF
    refine RL.gskip rfl rfl rfl rfl (RL.gskip rfl rfl rfl rfl (RL.gskip rfl rfl rfl rfl (RL.gskip rfl rfl rfl rfl (RL.gskip rfl rfl rfl rfl (RL.gskip rfl rfl rfl rfl (RL.gskip rfl rfl rfl rfl ?_))))))
    refine RL.gskip rfl rfl rfl rfl (RL.gskip rfl rfl rfl rfl (RL.gskip rfl rfl rfl rfl (RL.val (O.pickt rfl rfl) rfl (RL.nil (KQ.Xy ?_)))))
    replace hM := hM.pick [2, 1, 3, 0, 5, 4] rfl (by decide)
    exact fun a ha => ⟨g381, A383, c384, A386, c387, A389, c390, y377.2.1.XB, y377.2.1.Xb.Xz, y377.2.1.Xb.XI, y377.2.1.Xb.XA, y377.2.1.Xb.Xk, y377.2.1.Xb.Xr, y377.2.1.Xf.Xp, y377.2.1.Xf.XG, y377.2.1.Xh, y377.2.2.XK, y377.2.2.Xu.Xz, y377.2.2.Xu.XI, y377.2.2.Xu.XA, y377.2.2.Xu.Xk, y377.2.2.Xu.Xr, y377.2.2.f_L, true, ha.less (Xa rfl (Xa rfl (Xa rfl (Xa rfl (Xa rfl Xj))))), hM, hF⟩
   rw [if_neg (Xv hc)] at hF
   refine RL.gval rfl rfl (O.move rfl) rfl (RL.gval rfl rfl (O.move rfl) rfl (RL.gval rfl rfl (O.move rfl) rfl (RL.gval rfl rfl (O.move rfl) rfl ?_)))
   refine Xx hF fun xv394 hx393 hF => ?_
   have hA392 := Rd.atN (f := Zw) (s := 43) (fun _ => rfl) (by decide) (hM.inp hr6 Off.nil) hx393
   refine RL.gval rfl rfl (O.idxA sl25 (hA392) rfl rfl) rfl (RL.gval rfl rfl (O.fldA fl46_1 (by decide) rfl) rfl ?_)
   refine RL.gval rfl rfl (O.fldA fl44_0 (by decide) rfl) rfl ?_
   refine RL.gval rfl rfl (O.loadN (cs := (xv394.XH.Xo.cs)) ag42 rfl (Cs.addsN [1, 0] (hA392).cells rfl)) rfl ?_
   refine Xx hF fun y395 hx396 hF => ?_
   refine RL.gcall rfl rfl Tryz.func10 bd10 rfl rfl (Xa3 _ _ _ y377.2.1 _ _ _ _ _ _ _ y377.2.2 _ _ (hM.lent [0, 1, 2, 3, 4, 5] rfl (by decide)) xv394.XH.Xo _ hx396) fun v w397 hv => ?_
   obtain ⟨g399, A401, c402, A404, c405, A407, c408, rfl, hN398⟩ := hv
   replace hM := hM.callL [0, 1, 2, 3, 4, 5] [] rfl rfl (by decide) rfl hN398
   refine RL.gval rfl rfl (O.not rfl) rfl (RL.val (O.pickf rfl rfl) rfl (RL.nil (KQ.Xy ?_)))
   replace hM := hM.pick [2, 1, 3, 0, 5, 4] rfl (by decide)
   exact fun a ha => ⟨g399, A401, c402, A404, c405, A407, c408, y395.2.1.XB, y395.2.1.Xb.Xz, y395.2.1.Xb.XI, y395.2.1.Xb.XA, y395.2.1.Xb.Xk, y395.2.1.Xb.Xr, y395.2.1.Xf.Xp, y395.2.1.Xf.XG, y395.2.1.Xh, y395.2.2.XK, y395.2.2.Xu.Xz, y395.2.2.Xu.XI, y395.2.2.Xu.XA, y395.2.2.Xu.Xk, y395.2.2.Xu.Xr, y395.2.2.f_L, (!y395.1), ha.less (Xa rfl (Xa rfl (Xa rfl (Xa rfl (Xa rfl Xj))))), hM, hF⟩
  rintro a w440 ⟨g418, A420, c421, A425, c426, A436, c437, cv411, cv412, cv413, cv414, cv415, cv416, cv422, cv423, cv427, rv429, rv430, rv431, rv432, rv433, rv434, rv438, t439, ha, hM, hF⟩
  refine KC.app ha ?_
  clear ha
  unfold Jx at hF
  refine KC.cond rfl (fun hc => ?_) (fun hc => ?_)
  ·rw [if_pos hc] at hF
   refine sr fun Q441 hQ441 => ?_
   refine va rfl rfl (nt hQ441 (KC.ret (KQ.blk_r (KQ.thr hQ373 (KQ.then_r (KQ.blk_r ?_))))))
   refine KQ.thr hQ162 ?_
   have hE := Option.some.inj hF
   clear hF
   subst hE
   replace hM := hM.pick [] rfl (by decide)
   refine KQ.rets Tryz.results3 (RVs.cons (RV.tm rfl) RVs.nil) ?_
   exact ⟨_, rfl, rfl, hM⟩
  rw [if_neg (Xv hc)] at hF
  refine KC.skip (KQ.blk_n (KQ.thn hQ373 (KC.region (vm rfl rfl (RL.val (O.add rfl rfl) rfl (va rfl rfl ?_))))))
  refine RL.nil (KQ.Xy ?_)
  exact fun a ha => ⟨k370, Nat.lt_succ_self k370, g418, A420, c421, A425, c426, A436, c437, cv411, cv412, cv413, cv414, cv415, cv416, cv422, cv423, cv427, rv429, rv430, rv431, rv432, rv433, rv434, rv438, (IntKind.i64.wrap (i367 + 1)), ha.less (Xa rfl (Xa rfl (Xa rfl (Xa rfl Xj)))), hM, hF⟩
 rw [if_neg (Xv hc)] at hF
 refine KC.exit (KQ.thx hQ371 (KQ.then_x (KQ.blk_x (KQ.thn hQ162 ?_))))
 refine KC.cut (fun a w462 => ∃ (t461 : Bool), Kn 75 [(6, vB t461)] a ∧ Mem w [] w462 [] ∧ Ks t461 = some r) ?_ ?_
 ·refine KC.region (vm rfl rfl (vm rfl rfl (RL.val (O.bld (cs := (vB false :: (a16 (List.replicate 16 0) ++ (vB false :: (a16 (List.replicate 16 0) ++ [v8 0, v16 0, v16 0]))))) bt42 rfl (by kernel_rfl)) rfl ?_)))
  refine Xx hF fun y442 hx443 hF => ?_
  refine RL.call Tryz.func10 bd10 rfl rfl (Xa3 _ _ _ (Xl.mk cv339 (Xg.mk cv340 cv341 cv342 cv343 cv344) (Xw.mk cv350 cv351) cv355) _ _ _ _ _ _ _ (Xq.mk rv357 (Xg.mk rv358 rv359 rv360 rv361 rv362) rv366) _ _ (hM.lent [3, 1, 0, 2, 5, 4] rfl (by decide)) (Xe.mk (Xd.mk false (List.replicate 16 0)) (Xd.mk false (List.replicate 16 0)) 0 0 0) _ hx443) fun v w444 hv => ?_
  obtain ⟨g446, A448, c449, A451, c452, A454, c455, rfl, hN445⟩ := hv
  replace hM := hM.callL [3, 1, 0, 2, 5, 4] [] rfl rfl (by decide) rfl hN445
  refine vm rfl rfl ?_
  refine RL.bcase (t := 72) rfl (fun hc => ?_) (fun hc => ?_)
  ·rw [if_pos hc] at hF
   refine Xx hF fun y457 hx458 hF => ?_
   refine RL.gcall rfl rfl Tryz.func5 bd5 rfl rfl (YR _ _ hx458) fun v w459 hv => ?_
   obtain ⟨rfl, hN460⟩ := hv
   replace hM := hM.call0 hN460
   refine RL.val (O.pickt rfl rfl) rfl (va rfl rfl (RL.nil (KQ.Xy ?_)))
   replace hM := hM.pick [] rfl (by decide)
   exact fun a ha => ⟨y457, ha.less (Xa rfl Xj), hM, hF⟩
  rw [if_neg (Xv hc)] at hF
  refine RL.gskip rfl rfl rfl rfl (RL.val (O.pickf rfl rfl) rfl (va rfl rfl (RL.nil (KQ.Xy ?_))))
  replace hM := hM.pick [] rfl (by decide)
  exact fun a ha => ⟨false, ha.less (Xa rfl Xj), hM, hF⟩
 rintro a w462 ⟨t461, ha, hM, hF⟩
 refine KC.app ha ?_
 clear ha
 unfold Ks at hF
 refine KC.ret ?_
 have hE := Option.some.inj hF
 clear hF
 subst hE
 refine KQ.rets Tryz.results3 (RVs.cons (RV.tm rfl) RVs.nil) ?_
 exact ⟨_, rfl, rfl, hM⟩
end Go.Proofs.YtkpnocgfhipidaaGreat
