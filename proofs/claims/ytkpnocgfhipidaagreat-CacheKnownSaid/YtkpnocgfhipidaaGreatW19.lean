/- Printed by a program of this claim: each call returns what the plain function of its name gives. -/
import Derived.Test.YtkpnocgfhipidaaGreatW1
import Derived.Test.YtkpnocgfhipidaaGreatW5
import Derived.Test.YtkpnocgfhipidaaGreatW8
import Derived.Test.YtkpnocgfhipidaaGreatW9
set_option linter.unusedVariables false
set_option maxRecDepth 100000
set_option maxHeartbeats 40000000
namespace Go.Proofs.YtkpnocgfhipidaaGreat
open Go Go.Ox Go.RowKit
theorem VU (w : World) (b1 : Xg) (A3 : Option Addr) (c4 : Nat) (lv2 : List XF) (hr5 : Rd w A3 c4 43 lv2.length (lv2.flatMap Zw)) (ticks6 : Int) (r : Bool) (hF : Ji b1 lv2 ticks6 = some r) :
  CallsR Tryz.prog 13 [.agg (b1.cs).toArray, .slice A3 (lv2).length c4, v8 ticks6] w (fun v w' => v = vB r ∧ Mem w [] w' []) := by
 refine XJ Tryz.func13 rfl Tryz.ntmps13 rfl ?_
 have hM := Mem.init w
 unfold Ji at hF
 refine sr fun Q7 hQ7 => ?_
 refine RL.eff (E.box (vs := (b1.cs)) hM rfl rfl) rfl fun v w9 hv => ?_
 clear hM
 obtain ⟨g8, rfl, hM, hf⟩ := hv
 refine va rfl rfl (nt hQ7 ?_)
 refine KC.seqH fun Q11 hQ11 => ?_
 refine sr fun Q12 hQ12 => ?_
 refine vm rfl rfl (RL.val (O.len sl25 rfl) rfl (RL.val (O.gtr rfl rfl) rfl (nt hQ12 ?_)))
 refine KC.cond rfl (fun hc => ?_) (fun hc => ?_)
 ·rw [if_pos hc] at hF
  refine sr fun Q13 hQ13 => ?_
  refine Xx hF fun y14 hx15 hF => ?_
  refine RL.call Tryz.func5 bd5 rfl rfl (YR _ _ hx15) fun v w16 hv => ?_
  obtain ⟨rfl, hN17⟩ := hv
  replace hM := hM.call0 hN17
  refine va rfl rfl (nt hQ13 (KC.ret (KQ.thr hQ11 ?_)))
  have hE := Option.some.inj hF
  clear hF
  subst hE
  replace hM := hM.pick [] rfl (by decide)
  refine KQ.rets Tryz.results13 (RVs.cons (RV.tm rfl) RVs.nil) ?_
  exact ⟨_, rfl, rfl, hM⟩
 rw [if_neg (Xv hc)] at hF
 refine KC.skip (KQ.thn hQ11 ?_)
 refine sr fun Q18 hQ18 => ?_
 refine RL.val (O.loadN (cs := (b1.cs)) ag24 rfl (Cs.addsN [] ((hM.bx (i := 0) rfl)) rfl)) rfl (RL.icall Tryz.func6 bd6 rfl rfl rfl Tryz.ntmps6 rfl ?_)
 refine sr fun Q19 hQ19 => ?_
 refine RL.eff (E.box (vs := (b1.cs)) hM rfl rfl) rfl fun v w21 hv => ?_
 clear hM
 obtain ⟨g20, rfl, hM, hf⟩ := hv
 refine va rfl rfl (va rfl rfl (nt hQ19 ?_))
 refine KC.seqH fun Q23 hQ23 => ?_
 refine KC.cut (fun a w27 => ∃ (t25 : Bool), Kn 53 [(0, v64 0), (3, .pointer (some ⟨g20, 0, none⟩)), (35, vB t25)] a ∧ Mem w [] w27 [.box g20 24 (b1.cs), .box g8 24 (b1.cs)] ∧ YH b1 lv2 ticks6 t25 = some r) ?_ ?_
 ·refine KC.region (RL.val (O.fldA fl24_0 (by decide) rfl) rfl ?_)
  refine RL.val (O.load sc3 rfl (Cs.adds [0] ((hM.bx (i := 1) rfl)) rfl)) rfl (RL.val (O.lss rfl rfl) rfl (vm rfl rfl ?_))
  refine RL.bcase (t := 11) rfl (fun hc => ?_) (fun hc => ?_)
  ·rw [if_pos hc] at hF
   refine RL.brun1 24 35 true (by kernel_rfl) ?_
   refine RL.nil (KQ.Xy ?_)
   replace hM := hM.pick [1, 0] rfl (by decide)
   exact fun a ha => ⟨true, ha.less (Xa rfl (Xa rfl (Xa rfl Xj))), hM, hF⟩
  rw [if_neg (Xv hc)] at hF
  refine RL.gval rfl rfl (O.fldA fl24_0 (by decide) rfl) rfl ?_
  refine RL.gval rfl rfl (O.load sc3 rfl (Cs.adds [0] ((hM.bx (i := 1) rfl)) rfl)) rfl (RL.gval rfl rfl (O.gtr rfl rfl) rfl (RL.val (O.pickf rfl rfl) rfl (vm rfl rfl ?_)))
  refine RL.bcase (t := 16) rfl (fun hc => ?_) (fun hc => ?_)
  ·rw [if_pos hc] at hF
   refine RL.brun1 19 35 true (by kernel_rfl) ?_
   refine RL.nil (KQ.Xy ?_)
   replace hM := hM.pick [1, 0] rfl (by decide)
   exact fun a ha => ⟨true, ha.less (Xa rfl (Xa rfl (Xa rfl Xj))), hM, hF⟩
  rw [if_neg (Xv hc)] at hF
  refine RL.gval rfl rfl (O.fldA fl24_1 (by decide) rfl) rfl ?_
  refine RL.gval rfl rfl (O.load sc22 rfl (Cs.adds [1] ((hM.bx (i := 1) rfl)) rfl)) rfl (RL.gval rfl rfl (O.eql rfl rfl) rfl (RL.val (O.pickf rfl rfl) rfl (vm rfl rfl ?_)))
  refine RL.bcase (t := 21) rfl (fun hc => ?_) (fun hc => ?_)
  ·rw [if_pos hc] at hF
   refine RL.brun1 14 35 true (by kernel_rfl) ?_
   refine RL.nil (KQ.Xy ?_)
   replace hM := hM.pick [1, 0] rfl (by decide)
   exact fun a ha => ⟨true, ha.less (Xa rfl (Xa rfl (Xa rfl Xj))), hM, hF⟩
  rw [if_neg (Xv hc)] at hF
  refine RL.gval rfl rfl (O.fldA fl24_2 (by decide) rfl) rfl ?_
  refine RL.gval rfl rfl (O.load sc22 rfl (Cs.adds [2] ((hM.bx (i := 1) rfl)) rfl)) rfl (RL.gval rfl rfl (O.eql rfl rfl) rfl (RL.val (O.pickf rfl rfl) rfl (vm rfl rfl ?_)))
  refine RL.bcase (t := 26) rfl (fun hc => ?_) (fun hc => ?_)
  ·rw [if_pos hc] at hF
   refine RL.brun1 9 35 true (by kernel_rfl) ?_
   refine RL.nil (KQ.Xy ?_)
   replace hM := hM.pick [1, 0] rfl (by decide)
   exact fun a ha => ⟨true, ha.less (Xa rfl (Xa rfl (Xa rfl Xj))), hM, hF⟩
  rw [if_neg (Xv hc)] at hF
  refine RL.gval rfl rfl (O.fldA fl24_3 (by decide) rfl) rfl ?_
  refine RL.gval rfl rfl (O.load sc22 rfl (Cs.adds [3] ((hM.bx (i := 1) rfl)) rfl)) rfl (RL.gval rfl rfl (O.eql rfl rfl) rfl (RL.val (O.pickf rfl rfl) rfl (vm rfl rfl ?_)))
  refine RL.bcase (t := 31) rfl (fun hc => ?_) (fun hc => ?_)
  ·rw [if_pos hc] at hF
   refine RL.brun1 4 35 true (by kernel_rfl) ?_
   refine RL.nil (KQ.Xy ?_)
   replace hM := hM.pick [1, 0] rfl (by decide)
   exact fun a ha => ⟨true, ha.less (Xa rfl (Xa rfl (Xa rfl Xj))), hM, hF⟩
  rw [if_neg (Xv hc)] at hF
  refine RL.gval rfl rfl (O.fldA fl24_4 (by decide) rfl) rfl ?_
  refine RL.gval rfl rfl (O.load sc22 rfl (Cs.adds [4] ((hM.bx (i := 1) rfl)) rfl)) rfl (RL.gval rfl rfl (O.eql rfl rfl) rfl (RL.val (O.pickf rfl rfl) rfl (RL.nil (KQ.Xy ?_))))
  replace hM := hM.pick [1, 0] rfl (by decide)
  exact fun a ha => ⟨(b1.Xr == 0), ha.less (Xa rfl (Xa rfl (Xa rfl Xj))), hM, hF⟩
 rintro a w27 ⟨t25, ha, hM, hF⟩
 refine KC.app ha ?_
 clear ha
 unfold YH at hF
 refine KC.cond rfl (fun hc => ?_) (fun hc => ?_)
 ·rw [if_pos hc] at hF
  refine sr fun Q28 hQ28 => ?_
  refine va rfl rfl (va rfl rfl (nt hQ28 (KC.ret (KQ.thr hQ23 (KQ.rets Tryz.results6 (RVs.cons (RV.tm rfl) (RVs.cons (RV.tm rfl) RVs.nil)) (⟨.tuple #[.pointer none, vI 2], rfl, ?_⟩))))))
  refine vm rfl rfl (RL.val (O.ext rfl rfl) rfl (RL.val (O.ext rfl rfl) rfl (va rfl rfl (va rfl rfl (nt hQ18 ?_)))))
  refine sr fun Q29 hQ29 => ?_
  refine RL.val (O.loadN (cs := (b1.cs)) ag24 rfl (Cs.addsN [] ((hM.bx (i := 1) rfl)) rfl)) rfl (RL.icall Tryz.func6 bd6 rfl rfl rfl Tryz.ntmps6 rfl ?_)
  refine sr fun Q30 hQ30 => ?_
  refine RL.eff (E.box (vs := (b1.cs)) hM rfl rfl) rfl fun v w32 hv => ?_
  clear hM
  obtain ⟨g31, rfl, hM, hf⟩ := hv
  refine va rfl rfl (va rfl rfl (nt hQ30 ?_))
  refine KC.seqH fun Q34 hQ34 => ?_
  refine KC.cut (fun a w38 => ∃ (t36 : Bool), Kn 53 [(0, v64 0), (3, .pointer (some ⟨g31, 0, none⟩)), (35, vB t36)] a ∧ Mem w [] w38 [.box g31 24 (b1.cs), .box g8 24 (b1.cs)] ∧ YF b1 t36 = some r) ?_ ?_
  ·refine KC.region (RL.val (O.fldA fl24_0 (by decide) rfl) rfl ?_)
   refine RL.val (O.load sc3 rfl (Cs.adds [0] ((hM.bx (i := 2) rfl)) rfl)) rfl (RL.val (O.lss rfl rfl) rfl (vm rfl rfl ?_))
   refine RL.bcase (t := 11) rfl (fun hc => ?_) (fun hc => ?_)
   ·rw [if_pos hc] at hF
    refine RL.brun1 24 35 true (by kernel_rfl) ?_
    refine RL.nil (KQ.Xy ?_)
    replace hM := hM.pick [2, 1] rfl (by decide)
    exact fun a ha => ⟨true, ha.less (Xa rfl (Xa rfl (Xa rfl Xj))), hM, hF⟩
   rw [if_neg (Xv hc)] at hF
   refine RL.gval rfl rfl (O.fldA fl24_0 (by decide) rfl) rfl ?_
   refine RL.gval rfl rfl (O.load sc3 rfl (Cs.adds [0] ((hM.bx (i := 2) rfl)) rfl)) rfl (RL.gval rfl rfl (O.gtr rfl rfl) rfl (RL.val (O.pickf rfl rfl) rfl (vm rfl rfl ?_)))
   refine RL.bcase (t := 16) rfl (fun hc => ?_) (fun hc => ?_)
   ·rw [if_pos hc] at hF
    refine RL.brun1 19 35 true (by kernel_rfl) ?_
    refine RL.nil (KQ.Xy ?_)
    replace hM := hM.pick [2, 1] rfl (by decide)
    exact fun a ha => ⟨true, ha.less (Xa rfl (Xa rfl (Xa rfl Xj))), hM, hF⟩
   rw [if_neg (Xv hc)] at hF
   refine RL.gval rfl rfl (O.fldA fl24_1 (by decide) rfl) rfl ?_
   refine RL.gval rfl rfl (O.load sc22 rfl (Cs.adds [1] ((hM.bx (i := 2) rfl)) rfl)) rfl (RL.gval rfl rfl (O.eql rfl rfl) rfl (RL.val (O.pickf rfl rfl) rfl (vm rfl rfl ?_)))
   refine RL.bcase (t := 21) rfl (fun hc => ?_) (fun hc => ?_)
   ·rw [if_pos hc] at hF
    refine RL.brun1 14 35 true (by kernel_rfl) ?_
    refine RL.nil (KQ.Xy ?_)
    replace hM := hM.pick [2, 1] rfl (by decide)
    exact fun a ha => ⟨true, ha.less (Xa rfl (Xa rfl (Xa rfl Xj))), hM, hF⟩
   rw [if_neg (Xv hc)] at hF
   refine RL.gval rfl rfl (O.fldA fl24_2 (by decide) rfl) rfl ?_
   refine RL.gval rfl rfl (O.load sc22 rfl (Cs.adds [2] ((hM.bx (i := 2) rfl)) rfl)) rfl (RL.gval rfl rfl (O.eql rfl rfl) rfl (RL.val (O.pickf rfl rfl) rfl (vm rfl rfl ?_)))
   refine RL.bcase (t := 26) rfl (fun hc => ?_) (fun hc => ?_)
   ·rw [if_pos hc] at hF
    refine RL.brun1 9 35 true (by kernel_rfl) ?_
    refine RL.nil (KQ.Xy ?_)
    replace hM := hM.pick [2, 1] rfl (by decide)
    exact fun a ha => ⟨true, ha.less (Xa rfl (Xa rfl (Xa rfl Xj))), hM, hF⟩
   rw [if_neg (Xv hc)] at hF
   refine RL.gval rfl rfl (O.fldA fl24_3 (by decide) rfl) rfl ?_
   refine RL.gval rfl rfl (O.load sc22 rfl (Cs.adds [3] ((hM.bx (i := 2) rfl)) rfl)) rfl (RL.gval rfl rfl (O.eql rfl rfl) rfl (RL.val (O.pickf rfl rfl) rfl (vm rfl rfl ?_)))
   refine RL.bcase (t := 31) rfl (fun hc => ?_) (fun hc => ?_)
   ·rw [if_pos hc] at hF
    refine RL.brun1 4 35 true (by kernel_rfl) ?_
    refine RL.nil (KQ.Xy ?_)
    replace hM := hM.pick [2, 1] rfl (by decide)
    exact fun a ha => ⟨true, ha.less (Xa rfl (Xa rfl (Xa rfl Xj))), hM, hF⟩
   rw [if_neg (Xv hc)] at hF
   refine RL.gval rfl rfl (O.fldA fl24_4 (by decide) rfl) rfl ?_
   refine RL.gval rfl rfl (O.load sc22 rfl (Cs.adds [4] ((hM.bx (i := 2) rfl)) rfl)) rfl (RL.gval rfl rfl (O.eql rfl rfl) rfl (RL.val (O.pickf rfl rfl) rfl (RL.nil (KQ.Xy ?_))))
   replace hM := hM.pick [2, 1] rfl (by decide)
   exact fun a ha => ⟨(b1.Xr == 0), ha.less (Xa rfl (Xa rfl (Xa rfl Xj))), hM, hF⟩
  rintro a w38 ⟨t36, ha, hM, hF⟩
  refine KC.app ha ?_
  clear ha
  unfold YF at hF
  refine KC.cond rfl (fun hc => ?_) (fun hc => ?_)
  ·rw [if_pos hc] at hF
   refine sr fun Q39 hQ39 => ?_
   refine va rfl rfl (va rfl rfl (nt hQ39 (KC.ret (KQ.thr hQ34 (KQ.rets Tryz.results6 (RVs.cons (RV.tm rfl) (RVs.cons (RV.tm rfl) RVs.nil)) (⟨.tuple #[.pointer none, vI 2], rfl, ?_⟩))))))
   refine vm rfl rfl (RL.val (O.ext rfl rfl) rfl (RL.val (O.ext rfl rfl) rfl (va rfl rfl (va rfl rfl (nt hQ29 ?_)))))
   replace hM := hM.pick [] rfl (by decide)
   refine KC.seqH fun Q40 hQ40 => ?_
   refine KC.cut (fun a w41 => Kn 145 [(1, .slice A3 (lv2).length c4), (2, v8 ticks6), (7, .pointer none), (8, vI 2), (9, .pointer none), (10, vI 2), (41, vB true)] a ∧ Mem w [] w41 [] ∧ Kz = some r) ?_ ?_
   ·refine KC.region (vm rfl rfl (RL.val (O.neq rfl rfl) rfl (RL.brun1 4 41 true (by kernel_rfl) ?_)))
    refine RL.nil (KQ.Xy ?_)
    exact fun a ha => ⟨ha.less (Xa rfl (Xa rfl (Xa rfl (Xa rfl (Xa rfl (Xa rfl (Xa rfl Xj))))))), hM, hF⟩
   rintro a w41 ⟨ha, hM, hF⟩
   refine KC.app ha ?_
   clear ha
   unfold Kz at hF
   refine KC.condT rfl ?_
   refine KC.cut (fun a w47 => ∃ (t46 : Bool), Kn 145 [(6, vB t46)] a ∧ Mem w [] w47 [] ∧ KD t46 = some r) ?_ ?_
   ·refine KC.region (vm rfl rfl (vm rfl rfl (RL.val (O.eql rfl rfl) rfl (vm rfl rfl ?_))))
    refine Xx hF fun y42 hx43 hF => ?_
    refine RL.gcall rfl rfl Tryz.func5 bd5 rfl rfl (YR _ _ hx43) fun v w44 hv => ?_
    obtain ⟨rfl, hN45⟩ := hv
    replace hM := hM.call0 hN45
    refine RL.val (O.pickt rfl rfl) rfl (va rfl rfl (RL.nil (KQ.Xy ?_)))
    exact fun a ha => ⟨y42, ha.less (Xa rfl Xj), hM, hF⟩
   rintro a w47 ⟨t46, ha, hM, hF⟩
   refine KC.app ha ?_
   clear ha
   unfold KD at hF
   refine KC.ret (KQ.thr hQ40 ?_)
   have hE := Option.some.inj hF
   clear hF
   subst hE
   refine KQ.rets Tryz.results13 (RVs.cons (RV.tm rfl) RVs.nil) ?_
   exact ⟨_, rfl, rfl, hM⟩
  rw [if_neg (Xv hc)] at hF
  refine KC.skip (KQ.thn hQ34 ?_)
  refine sr fun Q48 hQ48 => ?_
  refine RL.val (O.fldA fl24_0 (by decide) rfl) rfl ?_
  refine RL.val (O.load sc3 rfl (Cs.adds [0] ((hM.bx (i := 0) rfl)) rfl)) rfl (RL.val (O.conv un3 Tryz.underlying67 rfl) rfl ?_)
  refine Xx hF fun y49 hx50 hF => ?_
  refine RL.call Tryz.func20 bd20 rfl rfl (Kk _ (IntKind.u64.wrap b1.Xz) _ hx50) fun v w51 hv => ?_
  obtain ⟨rfl, hN52⟩ := hv
  replace hM := hM.call0 hN52
  refine XZ hF fun hq53 hF => ?_
  refine RL.val (O.shl rfl rfl (of_decide_eq_true hq53)) rfl (RL.icall Tryz.func19 bd19 rfl rfl rfl Tryz.ntmps19 rfl ?_)
  refine sr fun Q54 hQ54 => ?_
  refine va rfl rfl (va rfl rfl (nt hQ54 ?_))
  refine KC.seqH fun Q55 hQ55 => ?_
  refine KC.cut (fun a w59 => ∃ (h56 : Bool), Kn 21 [(0, vI (Ox.shl .i64 1 y49)), (16, vB h56)] a ∧ Mem w [] w59 [.box g8 24 (b1.cs), .box g31 24 (b1.cs)] ∧ JI y49 h56 = some r) ?_ ?_
  ·refine KC.region (vm rfl rfl (RL.val (O.lss rfl rfl) rfl (vm rfl rfl ?_)))
   refine RL.bcase (t := 6) rfl (fun hc => ?_) (fun hc => ?_)
   ·rw [if_pos hc] at hF
    refine RL.brun1 10 16 true (by kernel_rfl) ?_
    refine RL.nil (KQ.Xy ?_)
    replace hM := hM.pick [1, 0] rfl (by decide)
    exact fun a ha => ⟨true, ha.less (Xa rfl (Xa rfl Xj)), hM, hF⟩
   rw [if_neg (Xv hc)] at hF
   refine RL.gval rfl rfl (O.move rfl) rfl (RL.gval rfl rfl (O.gtr rfl rfl) rfl (RL.val (O.pickf rfl rfl) rfl (vm rfl rfl ?_)))
   refine RL.bcase (t := 10) rfl (fun hc => ?_) (fun hc => ?_)
   ·rw [if_pos hc] at hF
    refine RL.brun1 6 16 true (by kernel_rfl) ?_
    refine RL.nil (KQ.Xy ?_)
    replace hM := hM.pick [1, 0] rfl (by decide)
    exact fun a ha => ⟨true, ha.less (Xa rfl (Xa rfl Xj)), hM, hF⟩
   rw [if_neg (Xv hc)] at hF
   refine RL.gval rfl rfl (O.move rfl) rfl (RL.gval rfl rfl (O.move rfl) rfl (RL.gval rfl rfl (O.sub rfl rfl) rfl (RL.gval rfl rfl (O.and rfl rfl) rfl (RL.gval rfl rfl (O.neq rfl rfl) rfl (RL.val (O.pickf rfl rfl) rfl (RL.nil ?_))))))
   refine KQ.Xy ?_
   replace hM := hM.pick [1, 0] rfl (by decide)
   exact fun a ha => ⟨((bits .and .i64 (Ox.shl .i64 1 y49) (IntKind.i64.wrap ((Ox.shl .i64 1 y49) - 1))) != 0), ha.less (Xa rfl (Xa rfl Xj)), hM, hF⟩
  rintro a w59 ⟨h56, ha, hM, hF⟩
  refine KC.app ha ?_
  clear ha
  unfold JI at hF
  refine KC.cond rfl (fun hc => ?_) (fun hc => ?_)
  ·rw [if_pos hc] at hF
   refine sr fun Q60 hQ60 => ?_
   refine va rfl rfl (va rfl rfl (nt hQ60 (KC.ret (KQ.thr hQ55 (KQ.rets Tryz.results19 (RVs.cons (RV.tm rfl) (RVs.cons (RV.tm rfl) RVs.nil)) (⟨.tuple #[.pointer none, vI 2], rfl, ?_⟩))))))
   refine vm rfl rfl (RL.val (O.ext rfl rfl) rfl (RL.val (O.ext rfl rfl) rfl (va rfl rfl (va rfl rfl (nt hQ48 ?_)))))
   refine KC.seqH fun Q61 hQ61 => ?_
   refine sr fun Q62 hQ62 => ?_
   refine vm rfl rfl (RL.val (O.neq rfl rfl) rfl (nt hQ62 (KC.condT rfl ?_)))
   refine sr fun Q63 hQ63 => ?_
   refine vm rfl rfl (va rfl rfl (va rfl rfl (nt hQ63 (KC.ret (KQ.thr hQ61 (KQ.rets Tryz.results6 (RVs.cons (RV.tm rfl) (RVs.cons (RV.tm rfl) RVs.nil)) ?_))))))
   refine ⟨.tuple #[.pointer none, vI 2], rfl, ?_⟩
   refine vm rfl rfl (RL.val (O.ext rfl rfl) rfl (RL.val (O.ext rfl rfl) rfl (va rfl rfl (va rfl rfl (nt hQ29 ?_)))))
   replace hM := hM.pick [] rfl (by decide)
   refine KC.seqH fun Q64 hQ64 => ?_
   refine KC.cut (fun a w65 => Kn 145 [(1, .slice A3 (lv2).length c4), (2, v8 ticks6), (7, .pointer none), (8, vI 2), (9, .pointer none), (10, vI 2), (41, vB true)] a ∧ Mem w [] w65 [] ∧ Ut = some r) ?_ ?_
   ·refine KC.region (vm rfl rfl (RL.val (O.neq rfl rfl) rfl (RL.brun1 4 41 true (by kernel_rfl) ?_)))
    refine RL.nil (KQ.Xy ?_)
    exact fun a ha => ⟨ha.less (Xa rfl (Xa rfl (Xa rfl (Xa rfl (Xa rfl (Xa rfl (Xa rfl Xj))))))), hM, hF⟩
   rintro a w65 ⟨ha, hM, hF⟩
   refine KC.app ha ?_
   clear ha
   unfold Ut at hF
   refine KC.condT rfl ?_
   refine KC.cut (fun a w71 => ∃ (t70 : Bool), Kn 145 [(6, vB t70)] a ∧ Mem w [] w71 [] ∧ UC t70 = some r) ?_ ?_
   ·refine KC.region (vm rfl rfl (vm rfl rfl (RL.val (O.eql rfl rfl) rfl (vm rfl rfl ?_))))
    refine Xx hF fun y66 hx67 hF => ?_
    refine RL.gcall rfl rfl Tryz.func5 bd5 rfl rfl (YR _ _ hx67) fun v w68 hv => ?_
    obtain ⟨rfl, hN69⟩ := hv
    replace hM := hM.call0 hN69
    refine RL.val (O.pickt rfl rfl) rfl (va rfl rfl (RL.nil (KQ.Xy ?_)))
    exact fun a ha => ⟨y66, ha.less (Xa rfl Xj), hM, hF⟩
   rintro a w71 ⟨t70, ha, hM, hF⟩
   refine KC.app ha ?_
   clear ha
   unfold UC at hF
   refine KC.ret (KQ.thr hQ64 ?_)
   have hE := Option.some.inj hF
   clear hF
   subst hE
   refine KQ.rets Tryz.results13 (RVs.cons (RV.tm rfl) RVs.nil) ?_
   exact ⟨_, rfl, rfl, hM⟩
  rw [if_neg (Xv hc)] at hF
  refine KC.skip (KQ.thn hQ55 ?_)
  refine sr fun Q72 hQ72 => ?_
  refine vm rfl rfl ?_
  refine XZ hF fun hq75 hF => ?_
  refine RL.eff (E.mks (enc := Xt) (zr := (Xm.mk false (Xe.mk (Xd.mk false (List.replicate 16 0)) (Xd.mk false (List.replicate 16 0)) 0 0 0) 0)) hM sl117 ze140 rfl rfl (fun _ => rfl) rfl rfl rfl (of_decide_eq_true hq75)) rfl fun v w74 hv => ?_
  clear hM
  obtain ⟨A73, rfl, hM, hf⟩ := hv
  refine RL.val (O.bld (cs := [.slice A73 ((List.replicate (Int.toNat (Ox.shl .i64 1 y49)) ((Xm.mk false (Xe.mk (Xd.mk false (List.replicate 16 0)) (Xd.mk false (List.replicate 16 0)) 0 0 0) 0) : Xm))).length (Int.toNat (Ox.shl .i64 1 y49)), vI 0]) bt119 rfl (by kernel_rfl)) rfl ?_
  refine RL.eff (E.box (vs := [.slice A73 ((List.replicate (Int.toNat (Ox.shl .i64 1 y49)) ((Xm.mk false (Xe.mk (Xd.mk false (List.replicate 16 0)) (Xd.mk false (List.replicate 16 0)) 0 0 0) 0) : Xm))).length (Int.toNat (Ox.shl .i64 1 y49)), vI 0]) hM rfl rfl) rfl fun v w78 hv => ?_
  clear hM
  obtain ⟨g77, rfl, hM, hf⟩ := hv
  refine va rfl rfl (va rfl rfl (nt hQ72 (KC.ret (KQ.rets Tryz.results19 (RVs.cons (RV.tm rfl) (RVs.cons (RV.tm rfl) RVs.nil)) (⟨.tuple #[.pointer (some ⟨g77, 0, none⟩), vI 0], rfl, ?_⟩)))))
  refine vm rfl rfl (RL.val (O.ext rfl rfl) rfl (RL.val (O.ext rfl rfl) rfl (va rfl rfl (va rfl rfl (nt hQ48 ?_)))))
  refine KC.seqH fun Q80 hQ80 => ?_
  refine sr fun Q81 hQ81 => ?_
  refine vm rfl rfl (RL.val (O.neq rfl rfl) rfl (nt hQ81 (KC.condF rfl (KC.skip (KQ.thn hQ80 ?_)))))
  refine sr fun Q82 hQ82 => ?_
  refine vm rfl rfl (RL.val (O.loadN (cs := (b1.cs)) ag24 rfl (Cs.addsN [] ((hM.bx (i := 1) rfl)) rfl)) rfl (vm rfl rfl (RL.val (O.bld (cs := (v64 0 :: (b1.cs ++ [.pointer (some ⟨g77, 0, none⟩), .slice none 0 0]))) bt69 rfl (by kernel_rfl)) rfl ?_)))
  refine RL.eff (E.box (vs := (v64 0 :: (b1.cs ++ [.pointer (some ⟨g77, 0, none⟩), .slice none 0 0]))) hM rfl rfl) rfl fun v w84 hv => ?_
  clear hM
  obtain ⟨g83, rfl, hM, hf⟩ := hv
  refine va rfl rfl (va rfl rfl (nt hQ82 (KC.ret (KQ.rets Tryz.results6 (RVs.cons (RV.tm rfl) (RVs.cons (RV.tm rfl) RVs.nil)) (⟨.tuple #[.pointer (some ⟨g83, 0, none⟩), vI 0], rfl, ?_⟩)))))
  refine vm rfl rfl (RL.val (O.ext rfl rfl) rfl (RL.val (O.ext rfl rfl) rfl (va rfl rfl (va rfl rfl (nt hQ29 ?_)))))
  replace hM := hM.pick [2, 3, 4] rfl (by decide)
  refine KC.seqH fun Q86 hQ86 => ?_
  refine KC.cut (fun a w90 => Kn 145 [(1, .slice A3 (lv2).length c4), (2, v8 ticks6), (7, .pointer none), (8, vI 2), (9, .pointer (some ⟨g83, 0, none⟩)), (10, vI 0), (41, vB true)] a ∧ Mem w [] w90 [.row A73 (Int.toNat (Ox.shl .i64 1 y49)) 140 39 ((List.replicate (Int.toNat (Ox.shl .i64 1 y49)) ((Xm.mk false (Xe.mk (Xd.mk false (List.replicate 16 0)) (Xd.mk false (List.replicate 16 0)) 0 0 0) 0) : Xm))).length (((List.replicate (Int.toNat (Ox.shl .i64 1 y49)) ((Xm.mk false (Xe.mk (Xd.mk false (List.replicate 16 0)) (Xd.mk false (List.replicate 16 0)) 0 0 0) 0) : Xm))).flatMap Xt), .box g77 119 [.slice A73 ((List.replicate (Int.toNat (Ox.shl .i64 1 y49)) ((Xm.mk false (Xe.mk (Xd.mk false (List.replicate 16 0)) (Xd.mk false (List.replicate 16 0)) 0 0 0) 0) : Xm))).length (Int.toNat (Ox.shl .i64 1 y49)), vI 0], .box g83 69 (v64 0 :: (b1.cs ++ [.pointer (some ⟨g77, 0, none⟩), .slice none 0 0]))] ∧ UE = some r) ?_ ?_
  ·refine KC.region (vm rfl rfl (RL.val (O.neq rfl rfl) rfl (RL.brun1 4 41 true (by kernel_rfl) ?_)))
   refine RL.nil (KQ.Xy ?_)
   exact fun a ha => ⟨ha.less (Xa rfl (Xa rfl (Xa rfl (Xa rfl (Xa rfl (Xa rfl (Xa rfl Xj))))))), hM, hF⟩
  rintro a w90 ⟨ha, hM, hF⟩
  refine KC.app ha ?_
  clear ha
  unfold UE at hF
  refine KC.condT rfl ?_
  refine KC.cut (fun a w91 => Kn 145 [(6, vB false)] a ∧ Mem w [] w91 [] ∧ Uz = some r) ?_ ?_
  ·refine KC.region (vm rfl rfl (vm rfl rfl (RL.val (O.eql rfl rfl) rfl (vm rfl rfl (RL.gskip rfl rfl rfl rfl (RL.val (O.pickf rfl rfl) rfl ?_))))))
   refine va rfl rfl (RL.nil (KQ.Xy ?_))
   replace hM := hM.pick [] rfl (by decide)
   exact fun a ha => ⟨ha.less (Xa rfl Xj), hM, hF⟩
  rintro a w91 ⟨ha, hM, hF⟩
  refine KC.app ha ?_
  clear ha
  unfold Uz at hF
  refine KC.ret (KQ.thr hQ86 ?_)
  have hE := Option.some.inj hF
  clear hF
  subst hE
  refine KQ.rets Tryz.results13 (RVs.cons (RV.tm rfl) RVs.nil) ?_
  exact ⟨_, rfl, rfl, hM⟩
 rw [if_neg (Xv hc)] at hF
 refine KC.skip (KQ.thn hQ23 ?_)
 refine sr fun Q92 hQ92 => ?_
 refine RL.val (O.fldA fl24_0 (by decide) rfl) rfl ?_
 refine RL.val (O.load sc3 rfl (Cs.adds [0] ((hM.bx (i := 0) rfl)) rfl)) rfl (RL.val (O.conv un3 Tryz.underlying67 rfl) rfl ?_)
 refine Xx hF fun y93 hx94 hF => ?_
 refine RL.call Tryz.func20 bd20 rfl rfl (Kk _ (IntKind.u64.wrap b1.Xz) _ hx94) fun v w95 hv => ?_
 obtain ⟨rfl, hN96⟩ := hv
 replace hM := hM.call0 hN96
 refine XZ hF fun hq97 hF => ?_
 refine RL.val (O.shl rfl rfl (of_decide_eq_true hq97)) rfl (RL.icall Tryz.func19 bd19 rfl rfl rfl Tryz.ntmps19 rfl ?_)
 refine sr fun Q98 hQ98 => ?_
 refine va rfl rfl (va rfl rfl (nt hQ98 ?_))
 refine KC.seqH fun Q99 hQ99 => ?_
 refine KC.cut (fun a w103 => ∃ (h100 : Bool), Kn 21 [(0, vI (Ox.shl .i64 1 y93)), (16, vB h100)] a ∧ Mem w [] w103 [.box g8 24 (b1.cs), .box g20 24 (b1.cs)] ∧ Zi b1 lv2 ticks6 y93 h100 = some r) ?_ ?_
 ·refine KC.region (vm rfl rfl (RL.val (O.lss rfl rfl) rfl (vm rfl rfl ?_)))
  refine RL.bcase (t := 6) rfl (fun hc => ?_) (fun hc => ?_)
  ·rw [if_pos hc] at hF
   refine RL.brun1 10 16 true (by kernel_rfl) ?_
   refine RL.nil (KQ.Xy ?_)
   replace hM := hM.pick [1, 0] rfl (by decide)
   exact fun a ha => ⟨true, ha.less (Xa rfl (Xa rfl Xj)), hM, hF⟩
  rw [if_neg (Xv hc)] at hF
  refine RL.gval rfl rfl (O.move rfl) rfl (RL.gval rfl rfl (O.gtr rfl rfl) rfl (RL.val (O.pickf rfl rfl) rfl (vm rfl rfl ?_)))
  refine RL.bcase (t := 10) rfl (fun hc => ?_) (fun hc => ?_)
  ·rw [if_pos hc] at hF
   refine RL.brun1 6 16 true (by kernel_rfl) ?_
   refine RL.nil (KQ.Xy ?_)
   replace hM := hM.pick [1, 0] rfl (by decide)
   exact fun a ha => ⟨true, ha.less (Xa rfl (Xa rfl Xj)), hM, hF⟩
  rw [if_neg (Xv hc)] at hF
  refine RL.gval rfl rfl (O.move rfl) rfl (RL.gval rfl rfl (O.move rfl) rfl (RL.gval rfl rfl (O.sub rfl rfl) rfl (RL.gval rfl rfl (O.and rfl rfl) rfl (RL.gval rfl rfl (O.neq rfl rfl) rfl (RL.val (O.pickf rfl rfl) rfl (RL.nil ?_))))))
  refine KQ.Xy ?_
  replace hM := hM.pick [1, 0] rfl (by decide)
  exact fun a ha => ⟨((bits .and .i64 (Ox.shl .i64 1 y93) (IntKind.i64.wrap ((Ox.shl .i64 1 y93) - 1))) != 0), ha.less (Xa rfl (Xa rfl Xj)), hM, hF⟩
 rintro a w103 ⟨h100, ha, hM, hF⟩
 refine KC.app ha ?_
 clear ha
 unfold Zi at hF
 refine KC.cond rfl (fun hc => ?_) (fun hc => ?_)
 ·rw [if_pos hc] at hF
  refine sr fun Q104 hQ104 => ?_
  refine va rfl rfl (va rfl rfl (nt hQ104 (KC.ret (KQ.thr hQ99 (KQ.rets Tryz.results19 (RVs.cons (RV.tm rfl) (RVs.cons (RV.tm rfl) RVs.nil)) (⟨.tuple #[.pointer none, vI 2], rfl, ?_⟩))))))
  refine vm rfl rfl (RL.val (O.ext rfl rfl) rfl (RL.val (O.ext rfl rfl) rfl (va rfl rfl (va rfl rfl (nt hQ92 ?_)))))
  refine KC.seqH fun Q105 hQ105 => ?_
  refine sr fun Q106 hQ106 => ?_
  refine vm rfl rfl (RL.val (O.neq rfl rfl) rfl (nt hQ106 (KC.condT rfl ?_)))
  refine sr fun Q107 hQ107 => ?_
  refine vm rfl rfl (va rfl rfl (va rfl rfl (nt hQ107 (KC.ret (KQ.thr hQ105 (KQ.rets Tryz.results6 (RVs.cons (RV.tm rfl) (RVs.cons (RV.tm rfl) RVs.nil)) ?_))))))
  refine ⟨.tuple #[.pointer none, vI 2], rfl, ?_⟩
  refine vm rfl rfl (RL.val (O.ext rfl rfl) rfl (RL.val (O.ext rfl rfl) rfl (va rfl rfl (va rfl rfl (nt hQ18 ?_)))))
  refine sr fun Q108 hQ108 => ?_
  refine RL.val (O.loadN (cs := (b1.cs)) ag24 rfl (Cs.addsN [] ((hM.bx (i := 0) rfl)) rfl)) rfl (RL.icall Tryz.func6 bd6 rfl rfl rfl Tryz.ntmps6 rfl ?_)
  refine sr fun Q109 hQ109 => ?_
  refine RL.eff (E.box (vs := (b1.cs)) hM rfl rfl) rfl fun v w111 hv => ?_
  clear hM
  obtain ⟨g110, rfl, hM, hf⟩ := hv
  refine va rfl rfl (va rfl rfl (nt hQ109 ?_))
  refine KC.seqH fun Q113 hQ113 => ?_
  refine KC.cut (fun a w117 => ∃ (t115 : Bool), Kn 53 [(0, v64 0), (3, .pointer (some ⟨g110, 0, none⟩)), (35, vB t115)] a ∧ Mem w [] w117 [.box g110 24 (b1.cs), .box g8 24 (b1.cs)] ∧ YO b1 t115 = some r) ?_ ?_
  ·refine KC.region (RL.val (O.fldA fl24_0 (by decide) rfl) rfl ?_)
   refine RL.val (O.load sc3 rfl (Cs.adds [0] ((hM.bx (i := 2) rfl)) rfl)) rfl (RL.val (O.lss rfl rfl) rfl (vm rfl rfl ?_))
   refine RL.bcase (t := 11) rfl (fun hc => ?_) (fun hc => ?_)
   ·rw [if_pos hc] at hF
    refine RL.brun1 24 35 true (by kernel_rfl) ?_
    refine RL.nil (KQ.Xy ?_)
    replace hM := hM.pick [2, 0] rfl (by decide)
    exact fun a ha => ⟨true, ha.less (Xa rfl (Xa rfl (Xa rfl Xj))), hM, hF⟩
   rw [if_neg (Xv hc)] at hF
   refine RL.gval rfl rfl (O.fldA fl24_0 (by decide) rfl) rfl ?_
   refine RL.gval rfl rfl (O.load sc3 rfl (Cs.adds [0] ((hM.bx (i := 2) rfl)) rfl)) rfl (RL.gval rfl rfl (O.gtr rfl rfl) rfl (RL.val (O.pickf rfl rfl) rfl (vm rfl rfl ?_)))
   refine RL.bcase (t := 16) rfl (fun hc => ?_) (fun hc => ?_)
   ·rw [if_pos hc] at hF
    refine RL.brun1 19 35 true (by kernel_rfl) ?_
    refine RL.nil (KQ.Xy ?_)
    replace hM := hM.pick [2, 0] rfl (by decide)
    exact fun a ha => ⟨true, ha.less (Xa rfl (Xa rfl (Xa rfl Xj))), hM, hF⟩
   rw [if_neg (Xv hc)] at hF
   refine RL.gval rfl rfl (O.fldA fl24_1 (by decide) rfl) rfl ?_
   refine RL.gval rfl rfl (O.load sc22 rfl (Cs.adds [1] ((hM.bx (i := 2) rfl)) rfl)) rfl (RL.gval rfl rfl (O.eql rfl rfl) rfl (RL.val (O.pickf rfl rfl) rfl (vm rfl rfl ?_)))
   refine RL.bcase (t := 21) rfl (fun hc => ?_) (fun hc => ?_)
   ·rw [if_pos hc] at hF
    refine RL.brun1 14 35 true (by kernel_rfl) ?_
    refine RL.nil (KQ.Xy ?_)
    replace hM := hM.pick [2, 0] rfl (by decide)
    exact fun a ha => ⟨true, ha.less (Xa rfl (Xa rfl (Xa rfl Xj))), hM, hF⟩
   rw [if_neg (Xv hc)] at hF
   refine RL.gval rfl rfl (O.fldA fl24_2 (by decide) rfl) rfl ?_
   refine RL.gval rfl rfl (O.load sc22 rfl (Cs.adds [2] ((hM.bx (i := 2) rfl)) rfl)) rfl (RL.gval rfl rfl (O.eql rfl rfl) rfl (RL.val (O.pickf rfl rfl) rfl (vm rfl rfl ?_)))
   refine RL.bcase (t := 26) rfl (fun hc => ?_) (fun hc => ?_)
   ·rw [if_pos hc] at hF
    refine RL.brun1 9 35 true (by kernel_rfl) ?_
    refine RL.nil (KQ.Xy ?_)
    replace hM := hM.pick [2, 0] rfl (by decide)
    exact fun a ha => ⟨true, ha.less (Xa rfl (Xa rfl (Xa rfl Xj))), hM, hF⟩
   rw [if_neg (Xv hc)] at hF
   refine RL.gval rfl rfl (O.fldA fl24_3 (by decide) rfl) rfl ?_
   refine RL.gval rfl rfl (O.load sc22 rfl (Cs.adds [3] ((hM.bx (i := 2) rfl)) rfl)) rfl (RL.gval rfl rfl (O.eql rfl rfl) rfl (RL.val (O.pickf rfl rfl) rfl (vm rfl rfl ?_)))
   refine RL.bcase (t := 31) rfl (fun hc => ?_) (fun hc => ?_)
   ·rw [if_pos hc] at hF
    refine RL.brun1 4 35 true (by kernel_rfl) ?_
    refine RL.nil (KQ.Xy ?_)
    replace hM := hM.pick [2, 0] rfl (by decide)
    exact fun a ha => ⟨true, ha.less (Xa rfl (Xa rfl (Xa rfl Xj))), hM, hF⟩
   rw [if_neg (Xv hc)] at hF
   refine RL.gval rfl rfl (O.fldA fl24_4 (by decide) rfl) rfl ?_
   refine RL.gval rfl rfl (O.load sc22 rfl (Cs.adds [4] ((hM.bx (i := 2) rfl)) rfl)) rfl (RL.gval rfl rfl (O.eql rfl rfl) rfl (RL.val (O.pickf rfl rfl) rfl (RL.nil (KQ.Xy ?_))))
   replace hM := hM.pick [2, 0] rfl (by decide)
   exact fun a ha => ⟨(b1.Xr == 0), ha.less (Xa rfl (Xa rfl (Xa rfl Xj))), hM, hF⟩
  rintro a w117 ⟨t115, ha, hM, hF⟩
  refine KC.app ha ?_
  clear ha
  unfold YO at hF
  refine KC.cond rfl (fun hc => ?_) (fun hc => ?_)
  ·rw [if_pos hc] at hF
   refine sr fun Q118 hQ118 => ?_
   refine va rfl rfl (va rfl rfl (nt hQ118 (KC.ret (KQ.thr hQ113 (KQ.rets Tryz.results6 (RVs.cons (RV.tm rfl) (RVs.cons (RV.tm rfl) RVs.nil)) (⟨.tuple #[.pointer none, vI 2], rfl, ?_⟩))))))
   refine vm rfl rfl (RL.val (O.ext rfl rfl) rfl (RL.val (O.ext rfl rfl) rfl (va rfl rfl (va rfl rfl (nt hQ108 ?_)))))
   replace hM := hM.pick [] rfl (by decide)
   refine KC.seqH fun Q119 hQ119 => ?_
   refine KC.cut (fun a w120 => Kn 145 [(1, .slice A3 (lv2).length c4), (2, v8 ticks6), (7, .pointer none), (8, vI 2), (9, .pointer none), (10, vI 2), (41, vB true)] a ∧ Mem w [] w120 [] ∧ Uk = some r) ?_ ?_
   ·refine KC.region (vm rfl rfl (RL.val (O.neq rfl rfl) rfl (RL.brun1 4 41 true (by kernel_rfl) ?_)))
    refine RL.nil (KQ.Xy ?_)
    exact fun a ha => ⟨ha.less (Xa rfl (Xa rfl (Xa rfl (Xa rfl (Xa rfl (Xa rfl (Xa rfl Xj))))))), hM, hF⟩
   rintro a w120 ⟨ha, hM, hF⟩
   refine KC.app ha ?_
   clear ha
   unfold Uk at hF
   refine KC.condT rfl ?_
   refine KC.cut (fun a w126 => ∃ (t125 : Bool), Kn 145 [(6, vB t125)] a ∧ Mem w [] w126 [] ∧ Uo t125 = some r) ?_ ?_
   ·refine KC.region (vm rfl rfl (vm rfl rfl (RL.val (O.eql rfl rfl) rfl (vm rfl rfl ?_))))
    refine Xx hF fun y121 hx122 hF => ?_
    refine RL.gcall rfl rfl Tryz.func5 bd5 rfl rfl (YR _ _ hx122) fun v w123 hv => ?_
    obtain ⟨rfl, hN124⟩ := hv
    replace hM := hM.call0 hN124
    refine RL.val (O.pickt rfl rfl) rfl (va rfl rfl (RL.nil (KQ.Xy ?_)))
    exact fun a ha => ⟨y121, ha.less (Xa rfl Xj), hM, hF⟩
   rintro a w126 ⟨t125, ha, hM, hF⟩
   refine KC.app ha ?_
   clear ha
   unfold Uo at hF
   refine KC.ret (KQ.thr hQ119 ?_)
   have hE := Option.some.inj hF
   clear hF
   subst hE
   refine KQ.rets Tryz.results13 (RVs.cons (RV.tm rfl) RVs.nil) ?_
   exact ⟨_, rfl, rfl, hM⟩
  rw [if_neg (Xv hc)] at hF
  refine KC.skip (KQ.thn hQ113 ?_)
  refine sr fun Q127 hQ127 => ?_
  refine RL.val (O.fldA fl24_0 (by decide) rfl) rfl ?_
  refine RL.val (O.load sc3 rfl (Cs.adds [0] ((hM.bx (i := 0) rfl)) rfl)) rfl (RL.val (O.conv un3 Tryz.underlying67 rfl) rfl ?_)
  refine Xx hF fun y128 hx129 hF => ?_
  refine RL.call Tryz.func20 bd20 rfl rfl (Kk _ (IntKind.u64.wrap b1.Xz) _ hx129) fun v w130 hv => ?_
  obtain ⟨rfl, hN131⟩ := hv
  replace hM := hM.call0 hN131
  refine XZ hF fun hq132 hF => ?_
  refine RL.val (O.shl rfl rfl (of_decide_eq_true hq132)) rfl (RL.icall Tryz.func19 bd19 rfl rfl rfl Tryz.ntmps19 rfl ?_)
  refine sr fun Q133 hQ133 => ?_
  refine va rfl rfl (va rfl rfl (nt hQ133 ?_))
  refine KC.seqH fun Q134 hQ134 => ?_
  refine KC.cut (fun a w138 => ∃ (h135 : Bool), Kn 21 [(0, vI (Ox.shl .i64 1 y128)), (16, vB h135)] a ∧ Mem w [] w138 [.box g8 24 (b1.cs), .box g110 24 (b1.cs)] ∧ Jy y128 h135 = some r) ?_ ?_
  ·refine KC.region (vm rfl rfl (RL.val (O.lss rfl rfl) rfl (vm rfl rfl ?_)))
   refine RL.bcase (t := 6) rfl (fun hc => ?_) (fun hc => ?_)
   ·rw [if_pos hc] at hF
    refine RL.brun1 10 16 true (by kernel_rfl) ?_
    refine RL.nil (KQ.Xy ?_)
    replace hM := hM.pick [1, 0] rfl (by decide)
    exact fun a ha => ⟨true, ha.less (Xa rfl (Xa rfl Xj)), hM, hF⟩
   rw [if_neg (Xv hc)] at hF
   refine RL.gval rfl rfl (O.move rfl) rfl (RL.gval rfl rfl (O.gtr rfl rfl) rfl (RL.val (O.pickf rfl rfl) rfl (vm rfl rfl ?_)))
   refine RL.bcase (t := 10) rfl (fun hc => ?_) (fun hc => ?_)
   ·rw [if_pos hc] at hF
    refine RL.brun1 6 16 true (by kernel_rfl) ?_
    refine RL.nil (KQ.Xy ?_)
    replace hM := hM.pick [1, 0] rfl (by decide)
    exact fun a ha => ⟨true, ha.less (Xa rfl (Xa rfl Xj)), hM, hF⟩
   rw [if_neg (Xv hc)] at hF
   refine RL.gval rfl rfl (O.move rfl) rfl (RL.gval rfl rfl (O.move rfl) rfl (RL.gval rfl rfl (O.sub rfl rfl) rfl (RL.gval rfl rfl (O.and rfl rfl) rfl (RL.gval rfl rfl (O.neq rfl rfl) rfl (RL.val (O.pickf rfl rfl) rfl (RL.nil ?_))))))
   refine KQ.Xy ?_
   replace hM := hM.pick [1, 0] rfl (by decide)
   exact fun a ha => ⟨((bits .and .i64 (Ox.shl .i64 1 y128) (IntKind.i64.wrap ((Ox.shl .i64 1 y128) - 1))) != 0), ha.less (Xa rfl (Xa rfl Xj)), hM, hF⟩
  rintro a w138 ⟨h135, ha, hM, hF⟩
  refine KC.app ha ?_
  clear ha
  unfold Jy at hF
  refine KC.cond rfl (fun hc => ?_) (fun hc => ?_)
  ·rw [if_pos hc] at hF
   refine sr fun Q139 hQ139 => ?_
   refine va rfl rfl (va rfl rfl (nt hQ139 (KC.ret (KQ.thr hQ134 (KQ.rets Tryz.results19 (RVs.cons (RV.tm rfl) (RVs.cons (RV.tm rfl) RVs.nil)) (⟨.tuple #[.pointer none, vI 2], rfl, ?_⟩))))))
   refine vm rfl rfl (RL.val (O.ext rfl rfl) rfl (RL.val (O.ext rfl rfl) rfl (va rfl rfl (va rfl rfl (nt hQ127 ?_)))))
   refine KC.seqH fun Q140 hQ140 => ?_
   refine sr fun Q141 hQ141 => ?_
   refine vm rfl rfl (RL.val (O.neq rfl rfl) rfl (nt hQ141 (KC.condT rfl ?_)))
   refine sr fun Q142 hQ142 => ?_
   refine vm rfl rfl (va rfl rfl (va rfl rfl (nt hQ142 (KC.ret (KQ.thr hQ140 (KQ.rets Tryz.results6 (RVs.cons (RV.tm rfl) (RVs.cons (RV.tm rfl) RVs.nil)) ?_))))))
   refine ⟨.tuple #[.pointer none, vI 2], rfl, ?_⟩
   refine vm rfl rfl (RL.val (O.ext rfl rfl) rfl (RL.val (O.ext rfl rfl) rfl (va rfl rfl (va rfl rfl (nt hQ108 ?_)))))
   replace hM := hM.pick [] rfl (by decide)
   refine KC.seqH fun Q143 hQ143 => ?_
   refine KC.cut (fun a w144 => Kn 145 [(1, .slice A3 (lv2).length c4), (2, v8 ticks6), (7, .pointer none), (8, vI 2), (9, .pointer none), (10, vI 2), (41, vB true)] a ∧ Mem w [] w144 [] ∧ Uj = some r) ?_ ?_
   ·refine KC.region (vm rfl rfl (RL.val (O.neq rfl rfl) rfl (RL.brun1 4 41 true (by kernel_rfl) ?_)))
    refine RL.nil (KQ.Xy ?_)
    exact fun a ha => ⟨ha.less (Xa rfl (Xa rfl (Xa rfl (Xa rfl (Xa rfl (Xa rfl (Xa rfl Xj))))))), hM, hF⟩
   rintro a w144 ⟨ha, hM, hF⟩
   refine KC.app ha ?_
   clear ha
   unfold Uj at hF
   refine KC.condT rfl ?_
   refine KC.cut (fun a w150 => ∃ (t149 : Bool), Kn 145 [(6, vB t149)] a ∧ Mem w [] w150 [] ∧ Up t149 = some r) ?_ ?_
   ·refine KC.region (vm rfl rfl (vm rfl rfl (RL.val (O.eql rfl rfl) rfl (vm rfl rfl ?_))))
    refine Xx hF fun y145 hx146 hF => ?_
    refine RL.gcall rfl rfl Tryz.func5 bd5 rfl rfl (YR _ _ hx146) fun v w147 hv => ?_
    obtain ⟨rfl, hN148⟩ := hv
    replace hM := hM.call0 hN148
    refine RL.val (O.pickt rfl rfl) rfl (va rfl rfl (RL.nil (KQ.Xy ?_)))
    exact fun a ha => ⟨y145, ha.less (Xa rfl Xj), hM, hF⟩
   rintro a w150 ⟨t149, ha, hM, hF⟩
   refine KC.app ha ?_
   clear ha
   unfold Up at hF
   refine KC.ret (KQ.thr hQ143 ?_)
   have hE := Option.some.inj hF
   clear hF
   subst hE
   refine KQ.rets Tryz.results13 (RVs.cons (RV.tm rfl) RVs.nil) ?_
   exact ⟨_, rfl, rfl, hM⟩
  rw [if_neg (Xv hc)] at hF
  refine KC.skip (KQ.thn hQ134 ?_)
  refine sr fun Q151 hQ151 => ?_
  refine vm rfl rfl ?_
  refine XZ hF fun hq154 hF => ?_
  refine RL.eff (E.mks (enc := Xt) (zr := (Xm.mk false (Xe.mk (Xd.mk false (List.replicate 16 0)) (Xd.mk false (List.replicate 16 0)) 0 0 0) 0)) hM sl117 ze140 rfl rfl (fun _ => rfl) rfl rfl rfl (of_decide_eq_true hq154)) rfl fun v w153 hv => ?_
  clear hM
  obtain ⟨A152, rfl, hM, hf⟩ := hv
  refine RL.val (O.bld (cs := [.slice A152 ((List.replicate (Int.toNat (Ox.shl .i64 1 y128)) ((Xm.mk false (Xe.mk (Xd.mk false (List.replicate 16 0)) (Xd.mk false (List.replicate 16 0)) 0 0 0) 0) : Xm))).length (Int.toNat (Ox.shl .i64 1 y128)), vI 0]) bt119 rfl (by kernel_rfl)) rfl ?_
  refine RL.eff (E.box (vs := [.slice A152 ((List.replicate (Int.toNat (Ox.shl .i64 1 y128)) ((Xm.mk false (Xe.mk (Xd.mk false (List.replicate 16 0)) (Xd.mk false (List.replicate 16 0)) 0 0 0) 0) : Xm))).length (Int.toNat (Ox.shl .i64 1 y128)), vI 0]) hM rfl rfl) rfl fun v w157 hv => ?_
  clear hM
  obtain ⟨g156, rfl, hM, hf⟩ := hv
  refine va rfl rfl (va rfl rfl (nt hQ151 (KC.ret (KQ.rets Tryz.results19 (RVs.cons (RV.tm rfl) (RVs.cons (RV.tm rfl) RVs.nil)) (⟨.tuple #[.pointer (some ⟨g156, 0, none⟩), vI 0], rfl, ?_⟩)))))
  refine vm rfl rfl (RL.val (O.ext rfl rfl) rfl (RL.val (O.ext rfl rfl) rfl (va rfl rfl (va rfl rfl (nt hQ127 ?_)))))
  refine KC.seqH fun Q159 hQ159 => ?_
  refine sr fun Q160 hQ160 => ?_
  refine vm rfl rfl (RL.val (O.neq rfl rfl) rfl (nt hQ160 (KC.condF rfl (KC.skip (KQ.thn hQ159 ?_)))))
  refine sr fun Q161 hQ161 => ?_
  refine vm rfl rfl (RL.val (O.loadN (cs := (b1.cs)) ag24 rfl (Cs.addsN [] ((hM.bx (i := 1) rfl)) rfl)) rfl (vm rfl rfl (RL.val (O.bld (cs := (v64 0 :: (b1.cs ++ [.pointer (some ⟨g156, 0, none⟩), .slice none 0 0]))) bt69 rfl (by kernel_rfl)) rfl ?_)))
  refine RL.eff (E.box (vs := (v64 0 :: (b1.cs ++ [.pointer (some ⟨g156, 0, none⟩), .slice none 0 0]))) hM rfl rfl) rfl fun v w163 hv => ?_
  clear hM
  obtain ⟨g162, rfl, hM, hf⟩ := hv
  refine va rfl rfl (va rfl rfl (nt hQ161 (KC.ret (KQ.rets Tryz.results6 (RVs.cons (RV.tm rfl) (RVs.cons (RV.tm rfl) RVs.nil)) (⟨.tuple #[.pointer (some ⟨g162, 0, none⟩), vI 0], rfl, ?_⟩)))))
  refine vm rfl rfl (RL.val (O.ext rfl rfl) rfl (RL.val (O.ext rfl rfl) rfl (va rfl rfl (va rfl rfl (nt hQ108 ?_)))))
  replace hM := hM.pick [2, 3, 4] rfl (by decide)
  refine KC.seqH fun Q165 hQ165 => ?_
  refine KC.cut (fun a w169 => Kn 145 [(1, .slice A3 (lv2).length c4), (2, v8 ticks6), (7, .pointer none), (8, vI 2), (9, .pointer (some ⟨g162, 0, none⟩)), (10, vI 0), (41, vB true)] a ∧ Mem w [] w169 [.row A152 (Int.toNat (Ox.shl .i64 1 y128)) 140 39 ((List.replicate (Int.toNat (Ox.shl .i64 1 y128)) ((Xm.mk false (Xe.mk (Xd.mk false (List.replicate 16 0)) (Xd.mk false (List.replicate 16 0)) 0 0 0) 0) : Xm))).length (((List.replicate (Int.toNat (Ox.shl .i64 1 y128)) ((Xm.mk false (Xe.mk (Xd.mk false (List.replicate 16 0)) (Xd.mk false (List.replicate 16 0)) 0 0 0) 0) : Xm))).flatMap Xt), .box g156 119 [.slice A152 ((List.replicate (Int.toNat (Ox.shl .i64 1 y128)) ((Xm.mk false (Xe.mk (Xd.mk false (List.replicate 16 0)) (Xd.mk false (List.replicate 16 0)) 0 0 0) 0) : Xm))).length (Int.toNat (Ox.shl .i64 1 y128)), vI 0], .box g162 69 (v64 0 :: (b1.cs ++ [.pointer (some ⟨g156, 0, none⟩), .slice none 0 0]))] ∧ Ul = some r) ?_ ?_
  ·refine KC.region (vm rfl rfl (RL.val (O.neq rfl rfl) rfl (RL.brun1 4 41 true (by kernel_rfl) ?_)))
   refine RL.nil (KQ.Xy ?_)
   exact fun a ha => ⟨ha.less (Xa rfl (Xa rfl (Xa rfl (Xa rfl (Xa rfl (Xa rfl (Xa rfl Xj))))))), hM, hF⟩
  rintro a w169 ⟨ha, hM, hF⟩
  refine KC.app ha ?_
  clear ha
  unfold Ul at hF
  refine KC.condT rfl ?_
  refine KC.cut (fun a w170 => Kn 145 [(6, vB false)] a ∧ Mem w [] w170 [] ∧ Um = some r) ?_ ?_
  ·refine KC.region (vm rfl rfl (vm rfl rfl (RL.val (O.eql rfl rfl) rfl (vm rfl rfl (RL.gskip rfl rfl rfl rfl (RL.val (O.pickf rfl rfl) rfl ?_))))))
   refine va rfl rfl (RL.nil (KQ.Xy ?_))
   replace hM := hM.pick [] rfl (by decide)
   exact fun a ha => ⟨ha.less (Xa rfl Xj), hM, hF⟩
  rintro a w170 ⟨ha, hM, hF⟩
  refine KC.app ha ?_
  clear ha
  unfold Um at hF
  refine KC.ret (KQ.thr hQ165 ?_)
  have hE := Option.some.inj hF
  clear hF
  subst hE
  refine KQ.rets Tryz.results13 (RVs.cons (RV.tm rfl) RVs.nil) ?_
  exact ⟨_, rfl, rfl, hM⟩
 rw [if_neg (Xv hc)] at hF
 refine KC.skip (KQ.thn hQ99 ?_)
 refine sr fun Q171 hQ171 => ?_
 refine vm rfl rfl ?_
 refine XZ hF fun hq174 hF => ?_
 refine RL.eff (E.mks (enc := Xt) (zr := (Xm.mk false (Xe.mk (Xd.mk false (List.replicate 16 0)) (Xd.mk false (List.replicate 16 0)) 0 0 0) 0)) hM sl117 ze140 rfl rfl (fun _ => rfl) rfl rfl rfl (of_decide_eq_true hq174)) rfl fun v w173 hv => ?_
 clear hM
 obtain ⟨A172, rfl, hM, hf⟩ := hv
 refine RL.val (O.bld (cs := [.slice A172 ((List.replicate (Int.toNat (Ox.shl .i64 1 y93)) ((Xm.mk false (Xe.mk (Xd.mk false (List.replicate 16 0)) (Xd.mk false (List.replicate 16 0)) 0 0 0) 0) : Xm))).length (Int.toNat (Ox.shl .i64 1 y93)), vI 0]) bt119 rfl (by kernel_rfl)) rfl ?_
 refine RL.eff (E.box (vs := [.slice A172 ((List.replicate (Int.toNat (Ox.shl .i64 1 y93)) ((Xm.mk false (Xe.mk (Xd.mk false (List.replicate 16 0)) (Xd.mk false (List.replicate 16 0)) 0 0 0) 0) : Xm))).length (Int.toNat (Ox.shl .i64 1 y93)), vI 0]) hM rfl rfl) rfl fun v w177 hv => ?_
 clear hM
 obtain ⟨g176, rfl, hM, hf⟩ := hv
 refine va rfl rfl (va rfl rfl (nt hQ171 (KC.ret (KQ.rets Tryz.results19 (RVs.cons (RV.tm rfl) (RVs.cons (RV.tm rfl) RVs.nil)) (⟨.tuple #[.pointer (some ⟨g176, 0, none⟩), vI 0], rfl, ?_⟩)))))
 refine vm rfl rfl (RL.val (O.ext rfl rfl) rfl (RL.val (O.ext rfl rfl) rfl (va rfl rfl (va rfl rfl (nt hQ92 ?_)))))
 refine KC.seqH fun Q179 hQ179 => ?_
 refine sr fun Q180 hQ180 => ?_
 refine vm rfl rfl (RL.val (O.neq rfl rfl) rfl (nt hQ180 (KC.condF rfl (KC.skip (KQ.thn hQ179 ?_)))))
 refine sr fun Q181 hQ181 => ?_
 refine vm rfl rfl (RL.val (O.loadN (cs := (b1.cs)) ag24 rfl (Cs.addsN [] ((hM.bx (i := 1) rfl)) rfl)) rfl (vm rfl rfl (RL.val (O.bld (cs := (v64 0 :: (b1.cs ++ [.pointer (some ⟨g176, 0, none⟩), .slice none 0 0]))) bt69 rfl (by kernel_rfl)) rfl ?_)))
 refine RL.eff (E.box (vs := (v64 0 :: (b1.cs ++ [.pointer (some ⟨g176, 0, none⟩), .slice none 0 0]))) hM rfl rfl) rfl fun v w183 hv => ?_
 clear hM
 obtain ⟨g182, rfl, hM, hf⟩ := hv
 refine va rfl rfl (va rfl rfl (nt hQ181 (KC.ret (KQ.rets Tryz.results6 (RVs.cons (RV.tm rfl) (RVs.cons (RV.tm rfl) RVs.nil)) (⟨.tuple #[.pointer (some ⟨g182, 0, none⟩), vI 0], rfl, ?_⟩)))))
 refine vm rfl rfl (RL.val (O.ext rfl rfl) rfl (RL.val (O.ext rfl rfl) rfl (va rfl rfl (va rfl rfl (nt hQ18 ?_)))))
 replace hM := hM.pick [0, 2, 3, 4] rfl (by decide)
 refine sr fun Q185 hQ185 => ?_
 refine RL.val (O.loadN (cs := (b1.cs)) ag24 rfl (Cs.addsN [] ((hM.bx (i := 0) rfl)) rfl)) rfl (RL.icall Tryz.func6 bd6 rfl rfl rfl Tryz.ntmps6 rfl ?_)
 refine sr fun Q186 hQ186 => ?_
 refine RL.eff (E.box (vs := (b1.cs)) hM rfl rfl) rfl fun v w188 hv => ?_
 clear hM
 obtain ⟨g187, rfl, hM, hf⟩ := hv
 refine va rfl rfl (va rfl rfl (nt hQ186 ?_))
 refine KC.seqH fun Q190 hQ190 => ?_
 refine KC.cut (fun a w197 => ∃ (t192 : Bool), Kn 53 [(0, v64 0), (3, .pointer (some ⟨g187, 0, none⟩)), (35, vB t192)] a ∧ Mem w [] w197 [.box g187 24 (b1.cs), .box g8 24 (b1.cs), .row A172 (Int.toNat (Ox.shl .i64 1 y93)) 140 39 ((List.replicate (Int.toNat (Ox.shl .i64 1 y93)) ((Xm.mk false (Xe.mk (Xd.mk false (List.replicate 16 0)) (Xd.mk false (List.replicate 16 0)) 0 0 0) 0) : Xm))).length (((List.replicate (Int.toNat (Ox.shl .i64 1 y93)) ((Xm.mk false (Xe.mk (Xd.mk false (List.replicate 16 0)) (Xd.mk false (List.replicate 16 0)) 0 0 0) 0) : Xm))).flatMap Xt), .box g176 119 [.slice A172 ((List.replicate (Int.toNat (Ox.shl .i64 1 y93)) ((Xm.mk false (Xe.mk (Xd.mk false (List.replicate 16 0)) (Xd.mk false (List.replicate 16 0)) 0 0 0) 0) : Xm))).length (Int.toNat (Ox.shl .i64 1 y93)), vI 0], .box g182 69 (v64 0 :: (b1.cs ++ [.pointer (some ⟨g176, 0, none⟩), .slice none 0 0]))] ∧ Yy b1 lv2 ticks6 y93 t192 = some r) ?_ ?_
 ·refine KC.region (RL.val (O.fldA fl24_0 (by decide) rfl) rfl ?_)
  refine RL.val (O.load sc3 rfl (Cs.adds [0] ((hM.bx (i := 4) rfl)) rfl)) rfl (RL.val (O.lss rfl rfl) rfl (vm rfl rfl ?_))
  refine RL.bcase (t := 11) rfl (fun hc => ?_) (fun hc => ?_)
  ·rw [if_pos hc] at hF
   refine RL.brun1 24 35 true (by kernel_rfl) ?_
   refine RL.nil (KQ.Xy ?_)
   replace hM := hM.pick [4, 0, 1, 2, 3] rfl (by decide)
   exact fun a ha => ⟨true, ha.less (Xa rfl (Xa rfl (Xa rfl Xj))), hM, hF⟩
  rw [if_neg (Xv hc)] at hF
  refine RL.gval rfl rfl (O.fldA fl24_0 (by decide) rfl) rfl ?_
  refine RL.gval rfl rfl (O.load sc3 rfl (Cs.adds [0] ((hM.bx (i := 4) rfl)) rfl)) rfl (RL.gval rfl rfl (O.gtr rfl rfl) rfl (RL.val (O.pickf rfl rfl) rfl (vm rfl rfl ?_)))
  refine RL.bcase (t := 16) rfl (fun hc => ?_) (fun hc => ?_)
  ·rw [if_pos hc] at hF
   refine RL.brun1 19 35 true (by kernel_rfl) ?_
   refine RL.nil (KQ.Xy ?_)
   replace hM := hM.pick [4, 0, 1, 2, 3] rfl (by decide)
   exact fun a ha => ⟨true, ha.less (Xa rfl (Xa rfl (Xa rfl Xj))), hM, hF⟩
  rw [if_neg (Xv hc)] at hF
  refine RL.gval rfl rfl (O.fldA fl24_1 (by decide) rfl) rfl ?_
  refine RL.gval rfl rfl (O.load sc22 rfl (Cs.adds [1] ((hM.bx (i := 4) rfl)) rfl)) rfl (RL.gval rfl rfl (O.eql rfl rfl) rfl (RL.val (O.pickf rfl rfl) rfl (vm rfl rfl ?_)))
  refine RL.bcase (t := 21) rfl (fun hc => ?_) (fun hc => ?_)
  ·rw [if_pos hc] at hF
   refine RL.brun1 14 35 true (by kernel_rfl) ?_
   refine RL.nil (KQ.Xy ?_)
   replace hM := hM.pick [4, 0, 1, 2, 3] rfl (by decide)
   exact fun a ha => ⟨true, ha.less (Xa rfl (Xa rfl (Xa rfl Xj))), hM, hF⟩
  rw [if_neg (Xv hc)] at hF
  refine RL.gval rfl rfl (O.fldA fl24_2 (by decide) rfl) rfl ?_
  refine RL.gval rfl rfl (O.load sc22 rfl (Cs.adds [2] ((hM.bx (i := 4) rfl)) rfl)) rfl (RL.gval rfl rfl (O.eql rfl rfl) rfl (RL.val (O.pickf rfl rfl) rfl (vm rfl rfl ?_)))
  refine RL.bcase (t := 26) rfl (fun hc => ?_) (fun hc => ?_)
  ·rw [if_pos hc] at hF
   refine RL.brun1 9 35 true (by kernel_rfl) ?_
   refine RL.nil (KQ.Xy ?_)
   replace hM := hM.pick [4, 0, 1, 2, 3] rfl (by decide)
   exact fun a ha => ⟨true, ha.less (Xa rfl (Xa rfl (Xa rfl Xj))), hM, hF⟩
  rw [if_neg (Xv hc)] at hF
  refine RL.gval rfl rfl (O.fldA fl24_3 (by decide) rfl) rfl ?_
  refine RL.gval rfl rfl (O.load sc22 rfl (Cs.adds [3] ((hM.bx (i := 4) rfl)) rfl)) rfl (RL.gval rfl rfl (O.eql rfl rfl) rfl (RL.val (O.pickf rfl rfl) rfl (vm rfl rfl ?_)))
  refine RL.bcase (t := 31) rfl (fun hc => ?_) (fun hc => ?_)
  ·rw [if_pos hc] at hF
   refine RL.brun1 4 35 true (by kernel_rfl) ?_
   refine RL.nil (KQ.Xy ?_)
   replace hM := hM.pick [4, 0, 1, 2, 3] rfl (by decide)
   exact fun a ha => ⟨true, ha.less (Xa rfl (Xa rfl (Xa rfl Xj))), hM, hF⟩
  rw [if_neg (Xv hc)] at hF
  refine RL.gval rfl rfl (O.fldA fl24_4 (by decide) rfl) rfl ?_
  refine RL.gval rfl rfl (O.load sc22 rfl (Cs.adds [4] ((hM.bx (i := 4) rfl)) rfl)) rfl (RL.gval rfl rfl (O.eql rfl rfl) rfl (RL.val (O.pickf rfl rfl) rfl (RL.nil (KQ.Xy ?_))))
  replace hM := hM.pick [4, 0, 1, 2, 3] rfl (by decide)
  exact fun a ha => ⟨(b1.Xr == 0), ha.less (Xa rfl (Xa rfl (Xa rfl Xj))), hM, hF⟩
 rintro a w197 ⟨t192, ha, hM, hF⟩
 refine KC.app ha ?_
 clear ha
 unfold Yy at hF
 refine KC.cond rfl (fun hc => ?_) (fun hc => ?_)
 ·rw [if_pos hc] at hF
  refine sr fun Q198 hQ198 => ?_
  refine va rfl rfl (va rfl rfl (nt hQ198 (KC.ret (KQ.thr hQ190 (KQ.rets Tryz.results6 (RVs.cons (RV.tm rfl) (RVs.cons (RV.tm rfl) RVs.nil)) (⟨.tuple #[.pointer none, vI 2], rfl, ?_⟩))))))
  refine vm rfl rfl (RL.val (O.ext rfl rfl) rfl (RL.val (O.ext rfl rfl) rfl (va rfl rfl (va rfl rfl (nt hQ185 ?_)))))
  replace hM := hM.pick [2, 3, 4] rfl (by decide)
  refine KC.seqH fun Q199 hQ199 => ?_
  refine KC.cut (fun a w203 => Kn 145 [(1, .slice A3 (lv2).length c4), (2, v8 ticks6), (7, .pointer (some ⟨g182, 0, none⟩)), (8, vI 0), (9, .pointer none), (10, vI 2), (41, vB true)] a ∧ Mem w [] w203 [.row A172 (Int.toNat (Ox.shl .i64 1 y93)) 140 39 ((List.replicate (Int.toNat (Ox.shl .i64 1 y93)) ((Xm.mk false (Xe.mk (Xd.mk false (List.replicate 16 0)) (Xd.mk false (List.replicate 16 0)) 0 0 0) 0) : Xm))).length (((List.replicate (Int.toNat (Ox.shl .i64 1 y93)) ((Xm.mk false (Xe.mk (Xd.mk false (List.replicate 16 0)) (Xd.mk false (List.replicate 16 0)) 0 0 0) 0) : Xm))).flatMap Xt), .box g176 119 [.slice A172 ((List.replicate (Int.toNat (Ox.shl .i64 1 y93)) ((Xm.mk false (Xe.mk (Xd.mk false (List.replicate 16 0)) (Xd.mk false (List.replicate 16 0)) 0 0 0) 0) : Xm))).length (Int.toNat (Ox.shl .i64 1 y93)), vI 0], .box g182 69 (v64 0 :: (b1.cs ++ [.pointer (some ⟨g176, 0, none⟩), .slice none 0 0]))] ∧ Uh = some r) ?_ ?_
  ·refine KC.region (vm rfl rfl (RL.val (O.neq rfl rfl) rfl (vm rfl rfl (RL.gval rfl rfl (O.move rfl) rfl (RL.gval rfl rfl (O.neq rfl rfl) rfl (RL.val (O.pickf rfl rfl) rfl ?_))))))
   refine RL.nil (KQ.Xy ?_)
   exact fun a ha => ⟨ha.less (Xa rfl (Xa rfl (Xa rfl (Xa rfl (Xa rfl (Xa rfl (Xa rfl Xj))))))), hM, hF⟩
  rintro a w203 ⟨ha, hM, hF⟩
  refine KC.app ha ?_
  clear ha
  unfold Uh at hF
  refine KC.condT rfl ?_
  refine KC.cut (fun a w204 => Kn 145 [(6, vB false)] a ∧ Mem w [] w204 [] ∧ Uq = some r) ?_ ?_
  ·refine KC.region (vm rfl rfl (vm rfl rfl (RL.val (O.eql rfl rfl) rfl (vm rfl rfl (RL.gskip rfl rfl rfl rfl (RL.val (O.pickf rfl rfl) rfl ?_))))))
   refine va rfl rfl (RL.nil (KQ.Xy ?_))
   replace hM := hM.pick [] rfl (by decide)
   exact fun a ha => ⟨ha.less (Xa rfl Xj), hM, hF⟩
  rintro a w204 ⟨ha, hM, hF⟩
  refine KC.app ha ?_
  clear ha
  unfold Uq at hF
  refine KC.ret (KQ.thr hQ199 ?_)
  have hE := Option.some.inj hF
  clear hF
  subst hE
  refine KQ.rets Tryz.results13 (RVs.cons (RV.tm rfl) RVs.nil) ?_
  exact ⟨_, rfl, rfl, hM⟩
 rw [if_neg (Xv hc)] at hF
 refine KC.skip (KQ.thn hQ190 ?_)
 refine sr fun Q205 hQ205 => ?_
 refine RL.val (O.fldA fl24_0 (by decide) rfl) rfl ?_
 refine RL.val (O.load sc3 rfl (Cs.adds [0] ((hM.bx (i := 0) rfl)) rfl)) rfl (RL.val (O.conv un3 Tryz.underlying67 rfl) rfl ?_)
 refine Xx hF fun y206 hx207 hF => ?_
 refine RL.call Tryz.func20 bd20 rfl rfl (Kk _ (IntKind.u64.wrap b1.Xz) _ hx207) fun v w208 hv => ?_
 obtain ⟨rfl, hN209⟩ := hv
 replace hM := hM.call0 hN209
 refine XZ hF fun hq210 hF => ?_
 refine RL.val (O.shl rfl rfl (of_decide_eq_true hq210)) rfl (RL.icall Tryz.func19 bd19 rfl rfl rfl Tryz.ntmps19 rfl ?_)
 refine sr fun Q211 hQ211 => ?_
 refine va rfl rfl (va rfl rfl (nt hQ211 ?_))
 refine KC.seqH fun Q212 hQ212 => ?_
 refine KC.cut (fun a w219 => ∃ (h213 : Bool), Kn 21 [(0, vI (Ox.shl .i64 1 y206)), (16, vB h213)] a ∧ Mem w [] w219 [.box g8 24 (b1.cs), .row A172 (Int.toNat (Ox.shl .i64 1 y93)) 140 39 ((List.replicate (Int.toNat (Ox.shl .i64 1 y93)) ((Xm.mk false (Xe.mk (Xd.mk false (List.replicate 16 0)) (Xd.mk false (List.replicate 16 0)) 0 0 0) 0) : Xm))).length (((List.replicate (Int.toNat (Ox.shl .i64 1 y93)) ((Xm.mk false (Xe.mk (Xd.mk false (List.replicate 16 0)) (Xd.mk false (List.replicate 16 0)) 0 0 0) 0) : Xm))).flatMap Xt), .box g176 119 [.slice A172 ((List.replicate (Int.toNat (Ox.shl .i64 1 y93)) ((Xm.mk false (Xe.mk (Xd.mk false (List.replicate 16 0)) (Xd.mk false (List.replicate 16 0)) 0 0 0) 0) : Xm))).length (Int.toNat (Ox.shl .i64 1 y93)), vI 0], .box g182 69 (v64 0 :: (b1.cs ++ [.pointer (some ⟨g176, 0, none⟩), .slice none 0 0])), .box g187 24 (b1.cs)] ∧ Zh b1 lv2 ticks6 y93 y206 h213 = some r) ?_ ?_
 ·refine KC.region (vm rfl rfl (RL.val (O.lss rfl rfl) rfl (vm rfl rfl ?_)))
  refine RL.bcase (t := 6) rfl (fun hc => ?_) (fun hc => ?_)
  ·rw [if_pos hc] at hF
   refine RL.brun1 10 16 true (by kernel_rfl) ?_
   refine RL.nil (KQ.Xy ?_)
   replace hM := hM.pick [1, 2, 3, 4, 0] rfl (by decide)
   exact fun a ha => ⟨true, ha.less (Xa rfl (Xa rfl Xj)), hM, hF⟩
  rw [if_neg (Xv hc)] at hF
  refine RL.gval rfl rfl (O.move rfl) rfl (RL.gval rfl rfl (O.gtr rfl rfl) rfl (RL.val (O.pickf rfl rfl) rfl (vm rfl rfl ?_)))
  refine RL.bcase (t := 10) rfl (fun hc => ?_) (fun hc => ?_)
  ·rw [if_pos hc] at hF
   refine RL.brun1 6 16 true (by kernel_rfl) ?_
   refine RL.nil (KQ.Xy ?_)
   replace hM := hM.pick [1, 2, 3, 4, 0] rfl (by decide)
   exact fun a ha => ⟨true, ha.less (Xa rfl (Xa rfl Xj)), hM, hF⟩
  rw [if_neg (Xv hc)] at hF
  refine RL.gval rfl rfl (O.move rfl) rfl (RL.gval rfl rfl (O.move rfl) rfl (RL.gval rfl rfl (O.sub rfl rfl) rfl (RL.gval rfl rfl (O.and rfl rfl) rfl (RL.gval rfl rfl (O.neq rfl rfl) rfl (RL.val (O.pickf rfl rfl) rfl (RL.nil ?_))))))
  refine KQ.Xy ?_
  replace hM := hM.pick [1, 2, 3, 4, 0] rfl (by decide)
  exact fun a ha => ⟨((bits .and .i64 (Ox.shl .i64 1 y206) (IntKind.i64.wrap ((Ox.shl .i64 1 y206) - 1))) != 0), ha.less (Xa rfl (Xa rfl Xj)), hM, hF⟩
 rintro a w219 ⟨h213, ha, hM, hF⟩
 refine KC.app ha ?_
 clear ha
 unfold Zh at hF
 refine KC.cond rfl (fun hc => ?_) (fun hc => ?_)
 ·rw [if_pos hc] at hF
  refine sr fun Q220 hQ220 => ?_
  refine va rfl rfl (va rfl rfl (nt hQ220 (KC.ret (KQ.thr hQ212 (KQ.rets Tryz.results19 (RVs.cons (RV.tm rfl) (RVs.cons (RV.tm rfl) RVs.nil)) (⟨.tuple #[.pointer none, vI 2], rfl, ?_⟩))))))
  refine vm rfl rfl (RL.val (O.ext rfl rfl) rfl (RL.val (O.ext rfl rfl) rfl (va rfl rfl (va rfl rfl (nt hQ205 ?_)))))
  refine KC.seqH fun Q221 hQ221 => ?_
  refine sr fun Q222 hQ222 => ?_
  refine vm rfl rfl (RL.val (O.neq rfl rfl) rfl (nt hQ222 (KC.condT rfl ?_)))
  refine sr fun Q223 hQ223 => ?_
  refine vm rfl rfl (va rfl rfl (va rfl rfl (nt hQ223 (KC.ret (KQ.thr hQ221 (KQ.rets Tryz.results6 (RVs.cons (RV.tm rfl) (RVs.cons (RV.tm rfl) RVs.nil)) ?_))))))
  refine ⟨.tuple #[.pointer none, vI 2], rfl, ?_⟩
  refine vm rfl rfl (RL.val (O.ext rfl rfl) rfl (RL.val (O.ext rfl rfl) rfl (va rfl rfl (va rfl rfl (nt hQ185 ?_)))))
  replace hM := hM.pick [1, 2, 3] rfl (by decide)
  refine KC.seqH fun Q224 hQ224 => ?_
  refine KC.cut (fun a w228 => Kn 145 [(1, .slice A3 (lv2).length c4), (2, v8 ticks6), (7, .pointer (some ⟨g182, 0, none⟩)), (8, vI 0), (9, .pointer none), (10, vI 2), (41, vB true)] a ∧ Mem w [] w228 [.row A172 (Int.toNat (Ox.shl .i64 1 y93)) 140 39 ((List.replicate (Int.toNat (Ox.shl .i64 1 y93)) ((Xm.mk false (Xe.mk (Xd.mk false (List.replicate 16 0)) (Xd.mk false (List.replicate 16 0)) 0 0 0) 0) : Xm))).length (((List.replicate (Int.toNat (Ox.shl .i64 1 y93)) ((Xm.mk false (Xe.mk (Xd.mk false (List.replicate 16 0)) (Xd.mk false (List.replicate 16 0)) 0 0 0) 0) : Xm))).flatMap Xt), .box g176 119 [.slice A172 ((List.replicate (Int.toNat (Ox.shl .i64 1 y93)) ((Xm.mk false (Xe.mk (Xd.mk false (List.replicate 16 0)) (Xd.mk false (List.replicate 16 0)) 0 0 0) 0) : Xm))).length (Int.toNat (Ox.shl .i64 1 y93)), vI 0], .box g182 69 (v64 0 :: (b1.cs ++ [.pointer (some ⟨g176, 0, none⟩), .slice none 0 0]))] ∧ Ug = some r) ?_ ?_
  ·refine KC.region (vm rfl rfl (RL.val (O.neq rfl rfl) rfl (vm rfl rfl (RL.gval rfl rfl (O.move rfl) rfl (RL.gval rfl rfl (O.neq rfl rfl) rfl (RL.val (O.pickf rfl rfl) rfl ?_))))))
   refine RL.nil (KQ.Xy ?_)
   exact fun a ha => ⟨ha.less (Xa rfl (Xa rfl (Xa rfl (Xa rfl (Xa rfl (Xa rfl (Xa rfl Xj))))))), hM, hF⟩
  rintro a w228 ⟨ha, hM, hF⟩
  refine KC.app ha ?_
  clear ha
  unfold Ug at hF
  refine KC.condT rfl ?_
  refine KC.cut (fun a w229 => Kn 145 [(6, vB false)] a ∧ Mem w [] w229 [] ∧ Ui = some r) ?_ ?_
  ·refine KC.region (vm rfl rfl (vm rfl rfl (RL.val (O.eql rfl rfl) rfl (vm rfl rfl (RL.gskip rfl rfl rfl rfl (RL.val (O.pickf rfl rfl) rfl ?_))))))
   refine va rfl rfl (RL.nil (KQ.Xy ?_))
   replace hM := hM.pick [] rfl (by decide)
   exact fun a ha => ⟨ha.less (Xa rfl Xj), hM, hF⟩
  rintro a w229 ⟨ha, hM, hF⟩
  refine KC.app ha ?_
  clear ha
  unfold Ui at hF
  refine KC.ret (KQ.thr hQ224 ?_)
  have hE := Option.some.inj hF
  clear hF
  subst hE
  refine KQ.rets Tryz.results13 (RVs.cons (RV.tm rfl) RVs.nil) ?_
  exact ⟨_, rfl, rfl, hM⟩
 rw [if_neg (Xv hc)] at hF
 refine KC.skip (KQ.thn hQ212 ?_)
 refine sr fun Q230 hQ230 => ?_
 refine vm rfl rfl ?_
 refine XZ hF fun hq233 hF => ?_
 refine RL.eff (E.mks (enc := Xt) (zr := (Xm.mk false (Xe.mk (Xd.mk false (List.replicate 16 0)) (Xd.mk false (List.replicate 16 0)) 0 0 0) 0)) hM sl117 ze140 rfl rfl (fun _ => rfl) rfl rfl rfl (of_decide_eq_true hq233)) rfl fun v w232 hv => ?_
 clear hM
 obtain ⟨A231, rfl, hM, hf⟩ := hv
 refine RL.val (O.bld (cs := [.slice A231 ((List.replicate (Int.toNat (Ox.shl .i64 1 y206)) ((Xm.mk false (Xe.mk (Xd.mk false (List.replicate 16 0)) (Xd.mk false (List.replicate 16 0)) 0 0 0) 0) : Xm))).length (Int.toNat (Ox.shl .i64 1 y206)), vI 0]) bt119 rfl (by kernel_rfl)) rfl ?_
 refine RL.eff (E.box (vs := [.slice A231 ((List.replicate (Int.toNat (Ox.shl .i64 1 y206)) ((Xm.mk false (Xe.mk (Xd.mk false (List.replicate 16 0)) (Xd.mk false (List.replicate 16 0)) 0 0 0) 0) : Xm))).length (Int.toNat (Ox.shl .i64 1 y206)), vI 0]) hM rfl rfl) rfl fun v w236 hv => ?_
 clear hM
 obtain ⟨g235, rfl, hM, hf⟩ := hv
 refine va rfl rfl (va rfl rfl (nt hQ230 (KC.ret (KQ.rets Tryz.results19 (RVs.cons (RV.tm rfl) (RVs.cons (RV.tm rfl) RVs.nil)) (⟨.tuple #[.pointer (some ⟨g235, 0, none⟩), vI 0], rfl, ?_⟩)))))
 refine vm rfl rfl (RL.val (O.ext rfl rfl) rfl (RL.val (O.ext rfl rfl) rfl (va rfl rfl (va rfl rfl (nt hQ205 ?_)))))
 refine KC.seqH fun Q238 hQ238 => ?_
 refine sr fun Q239 hQ239 => ?_
 refine vm rfl rfl (RL.val (O.neq rfl rfl) rfl (nt hQ239 (KC.condF rfl (KC.skip (KQ.thn hQ238 ?_)))))
 refine sr fun Q240 hQ240 => ?_
 refine vm rfl rfl (RL.val (O.loadN (cs := (b1.cs)) ag24 rfl (Cs.addsN [] ((hM.bx (i := 4) rfl)) rfl)) rfl (vm rfl rfl (RL.val (O.bld (cs := (v64 0 :: (b1.cs ++ [.pointer (some ⟨g235, 0, none⟩), .slice none 0 0]))) bt69 rfl (by kernel_rfl)) rfl ?_)))
 refine RL.eff (E.box (vs := (v64 0 :: (b1.cs ++ [.pointer (some ⟨g235, 0, none⟩), .slice none 0 0]))) hM rfl rfl) rfl fun v w242 hv => ?_
 clear hM
 obtain ⟨g241, rfl, hM, hf⟩ := hv
 refine va rfl rfl (va rfl rfl (nt hQ240 (KC.ret (KQ.rets Tryz.results6 (RVs.cons (RV.tm rfl) (RVs.cons (RV.tm rfl) RVs.nil)) (⟨.tuple #[.pointer (some ⟨g241, 0, none⟩), vI 0], rfl, ?_⟩)))))
 refine vm rfl rfl (RL.val (O.ext rfl rfl) rfl (RL.val (O.ext rfl rfl) rfl (va rfl rfl (va rfl rfl (nt hQ185 ?_)))))
 replace hM := hM.pick [1, 2, 3, 5, 6, 7] rfl (by decide)
 refine KC.seqH fun Q244 hQ244 => ?_
 refine KC.cut (fun a w251 => Kn 145 [(1, .slice A3 (lv2).length c4), (2, v8 ticks6), (7, .pointer (some ⟨g182, 0, none⟩)), (8, vI 0), (9, .pointer (some ⟨g241, 0, none⟩)), (10, vI 0), (41, vB false)] a ∧ Mem w [] w251 [.row A172 (Int.toNat (Ox.shl .i64 1 y93)) 140 39 ((List.replicate (Int.toNat (Ox.shl .i64 1 y93)) ((Xm.mk false (Xe.mk (Xd.mk false (List.replicate 16 0)) (Xd.mk false (List.replicate 16 0)) 0 0 0) 0) : Xm))).length (((List.replicate (Int.toNat (Ox.shl .i64 1 y93)) ((Xm.mk false (Xe.mk (Xd.mk false (List.replicate 16 0)) (Xd.mk false (List.replicate 16 0)) 0 0 0) 0) : Xm))).flatMap Xt), .box g176 119 [.slice A172 ((List.replicate (Int.toNat (Ox.shl .i64 1 y93)) ((Xm.mk false (Xe.mk (Xd.mk false (List.replicate 16 0)) (Xd.mk false (List.replicate 16 0)) 0 0 0) 0) : Xm))).length (Int.toNat (Ox.shl .i64 1 y93)), vI 0], .box g182 69 (v64 0 :: (b1.cs ++ [.pointer (some ⟨g176, 0, none⟩), .slice none 0 0])), .row A231 (Int.toNat (Ox.shl .i64 1 y206)) 140 39 ((List.replicate (Int.toNat (Ox.shl .i64 1 y206)) ((Xm.mk false (Xe.mk (Xd.mk false (List.replicate 16 0)) (Xd.mk false (List.replicate 16 0)) 0 0 0) 0) : Xm))).length (((List.replicate (Int.toNat (Ox.shl .i64 1 y206)) ((Xm.mk false (Xe.mk (Xd.mk false (List.replicate 16 0)) (Xd.mk false (List.replicate 16 0)) 0 0 0) 0) : Xm))).flatMap Xt), .box g235 119 [.slice A231 ((List.replicate (Int.toNat (Ox.shl .i64 1 y206)) ((Xm.mk false (Xe.mk (Xd.mk false (List.replicate 16 0)) (Xd.mk false (List.replicate 16 0)) 0 0 0) 0) : Xm))).length (Int.toNat (Ox.shl .i64 1 y206)), vI 0], .box g241 69 (v64 0 :: (b1.cs ++ [.pointer (some ⟨g235, 0, none⟩), .slice none 0 0]))] ∧ Kq b1 lv2 ticks6 y93 y206 = some r) ?_ ?_
 ·refine KC.region (vm rfl rfl (RL.val (O.neq rfl rfl) rfl (vm rfl rfl (RL.gval rfl rfl (O.move rfl) rfl (RL.gval rfl rfl (O.neq rfl rfl) rfl (RL.val (O.pickf rfl rfl) rfl ?_))))))
  refine RL.nil (KQ.Xy ?_)
  exact fun a ha => ⟨ha.less (Xa rfl (Xa rfl (Xa rfl (Xa rfl (Xa rfl (Xa rfl (Xa rfl Xj))))))), hM, hF⟩
 rintro a w251 ⟨ha, hM, hF⟩
 refine KC.app ha ?_
 clear ha
 unfold Kq at hF
 refine KC.condF rfl (KC.skip (KQ.thn hQ244 ?_))
 refine sr fun Q252 hQ252 => ?_
 refine va rfl rfl (nt hQ252 ?_)
 refine KC.seqH fun Q253 hQ253 => ?_
 refine sr fun Q254 hQ254 => ?_
 refine va rfl rfl (nt hQ254 (KC.block ?_))
 refine KC.loop (fun k459 a w457 => ∃ (g427 : Nat) (A429 : Option Addr) (c430 : Nat) (A434 : Option Addr) (c435 g445 : Nat) (A447 : Option Addr) (c448 : Nat) (A452 : Option Addr) (c453 : Nat) (cv420 cv421 cv422 cv423 cv424 cv425 : Int) (cv431 : List Xm) (cv432 : Int) (cv436 : List Xc) (d438 d439 d440 d441 d442 d443 : Int) (d449 : List Xm) (d450 : Int) (d454 : List Xc) (tick455 i456 : Int), Kn 145 [(1, .slice A3 (lv2).length c4), (2, v8 ticks6), (7, .pointer (some ⟨g182, 0, none⟩)), (9, .pointer (some ⟨g241, 0, none⟩)), (11, v64 tick455), (12, vI i456)] a ∧ Mem w [] w457 [.row A429 c430 140 39 (cv431).length ((cv431).flatMap Xt), .box g427 119 [.slice A429 (cv431).length c430, vI cv432], .row A434 c435 62 44 (cv436).length ((cv436).flatMap Xn), .box g182 69 [v64 cv420, vI cv421, v64 cv422, v64 cv423, v64 cv424, v64 cv425, .pointer (some ⟨g427, 0, none⟩), .slice A434 (cv436).length c435], .row A447 c448 140 39 (d449).length ((d449).flatMap Xt), .box g445 119 [.slice A447 (d449).length c448, vI d450], .row A452 c453 62 44 (d454).length ((d454).flatMap Xn), .box g241 69 [v64 d438, vI d439, v64 d440, v64 d441, v64 d442, v64 d443, .pointer (some ⟨g445, 0, none⟩), .slice A452 (d454).length c453]] ∧ Zo lv2 ticks6 k459 cv420 cv421 cv422 cv423 cv424 cv425 cv431 cv432 cv436 d438 d439 d440 d441 d442 d443 d449 d450 d454 tick455 i456 = some r) ?_ ?_
 ·replace hM := hM.nilrow 62 44
  replace hM := hM.nilrow 62 44
  replace hM := hM.pick [0, 1, 6, 2, 3, 4, 7, 5] rfl (by decide)
  exact fun a ha => ⟨fuel0, g176, A172, (Int.toNat (Ox.shl .i64 1 y93)), none, 0, g235, A231, (Int.toNat (Ox.shl .i64 1 y206)), none, 0, 0, b1.Xz, b1.XI, b1.XA, b1.Xk, b1.Xr, (List.replicate (Int.toNat (Ox.shl .i64 1 y93)) ((Xm.mk false (Xe.mk (Xd.mk false (List.replicate 16 0)) (Xd.mk false (List.replicate 16 0)) 0 0 0) 0) : Xm)), 0, ([]), 0, b1.Xz, b1.XI, b1.XA, b1.Xk, b1.Xr, (List.replicate (Int.toNat (Ox.shl .i64 1 y206)) ((Xm.mk false (Xe.mk (Xd.mk false (List.replicate 16 0)) (Xd.mk false (List.replicate 16 0)) 0 0 0) 0) : Xm)), 0, ([]), 0, 0, ha.less (Xa rfl (Xa rfl (Xa rfl (Xa rfl (Xa rfl (Xa rfl Xj)))))), hM, hF⟩
 rintro k459 a w457 ⟨g427, A429, c430, A434, c435, g445, A447, c448, A452, c453, cv420, cv421, cv422, cv423, cv424, cv425, cv431, cv432, cv436, d438, d439, d440, d441, d442, d443, d449, d450, d454, tick455, i456, ha, hM, hF⟩
 refine KC.app ha ?_
 clear ha
 cases k459 with
 | zero => exact (Yl hF).elim
 | succ k459 =>
 have hF : JN (Zo lv2 ticks6 k459) lv2 ticks6 cv420 cv421 cv422 cv423 cv424 cv425 cv431 cv432 cv436 d438 d439 d440 d441 d442 d443 d449 d450 d454 tick455 i456 = some r := hF
 unfold JN at hF
 refine KC.seqH fun Q460 hQ460 => ?_
 refine sr fun Q461 hQ461 => ?_
 refine vm rfl rfl (vm rfl rfl (RL.val (O.len sl25 rfl) rfl (RL.val (O.lss rfl rfl) rfl (nt hQ461 ?_))))
 refine KC.cond rfl (fun hc => ?_) (fun hc => ?_)
 ·rw [if_pos hc] at hF
  refine KC.skip (KQ.thn hQ460 ?_)
  refine KC.seqH fun Q462 hQ462 => ?_
  refine KC.block ?_
  refine sr fun Q463 hQ463 => ?_
  refine vm rfl rfl (vm rfl rfl (vm rfl rfl ?_))
  refine Xx hF fun xv466 hx465 hF => ?_
  have hA464 := Rd.atN (f := Zw) (s := 43) (fun _ => rfl) (by decide) (hM.inp hr5 Off.nil) hx465
  refine RL.val (O.idxA sl25 (hA464) rfl rfl) rfl (RL.val (O.fldA fl46_3 (by decide) rfl) rfl ?_)
  refine RL.val (O.load sc22 rfl (Cs.adds [42] (hA464).cells rfl)) rfl (RL.val (O.rem rfl rfl (by decide)) rfl ?_)
  refine RL.val (O.add rfl rfl) rfl (va rfl rfl (nt hQ463 ?_))
  refine KC.seqH fun Q467 hQ467 => ?_
  replace hM := hM.drewN 1
  refine KC.draw [] [12] [12] [0, 1, 2, 4, 6, 7, 9, 11, 13, 14, 15, 16, 17] (.ofList [0, 1, 2, 3, 4, 5, 6, 7, 8, 9, 10, 11, 12, 13, 14, 15, 16, 17]) moP (by kernel_rfl) ?_
  refine RD.p rfl rfl rfl rfl (fun w' => O.move rfl) ?_
  refine RD.p rfl rfl rfl rfl (fun w' => O.move rfl) ?_
  refine RD.p rfl rfl rfl rfl (fun w' => O.move rfl) ?_
  refine Xx hF fun xv470 hx469 hF => ?_
  have hA468 := Rd.atN (f := Zw) (s := 43) (fun _ => rfl) (by decide) (hM.inp hr5 Off.nil) hx469
  refine RD.q rfl rfl rfl rfl (fun w' hf => O.idxA sl25 (hA468.fut hf) rfl rfl) ?_
  refine RD.p rfl rfl rfl rfl (fun w' => O.fldA fl46_1 (by decide) rfl) ?_
  refine RD.q rfl rfl rfl rfl (fun w' hf => O.loadN (cs := (xv470.XH.cs)) ag44 rfl (Cs.addsN [1] (hA468.fut hf).cells rfl)) ?_
  refine RD.p rfl rfl rfl rfl (fun w' => O.move rfl) ?_
  refine RD.p rfl rfl rfl rfl (fun w' => O.move rfl) ?_
  refine Xx hF fun xv473 hx472 hF => ?_
  have hA471 := Rd.atN (f := Zw) (s := 43) (fun _ => rfl) (by decide) (hM.inp hr5 Off.nil) hx472
  refine RD.q rfl rfl rfl rfl (fun w' hf => O.idxA sl25 (hA471.fut hf) rfl rfl) ?_
  refine RD.p rfl rfl rfl rfl (fun w' => O.fldA fl46_2 (by decide) rfl) ?_
  refine RD.q rfl rfl rfl rfl (fun w' hf => O.load sc5 rfl (Cs.adds [41] (hA471.fut hf).cells rfl)) ?_
  refine RD.p rfl rfl rfl rfl (fun w' => O.move rfl) ?_
  refine Xx hF fun y474 hx475 hF => ?_
  refine RD.mcall rfl rfl trivial Tryz.func16 bd16 rfl rfl (Yp _ _ _ (Xl.mk cv420 (Xg.mk cv421 cv422 cv423 cv424 cv425) (Xw.mk cv431 cv432) cv436) _ _ _ _ _ (hM.lent [3, 1, 0, 2] rfl (by decide)) xv470.XH xv473.XU (IntKind.u64.wrap (tick455 + (Int.tmod xv466.XK 8))) _ hx475) fun v w476 hv => ?_
  obtain ⟨g478, A480, c481, A483, c484, A486, c487, rfl, hN477⟩ := hv
  refine ⟨fun h => (by cases h), ?_⟩
  replace hM := hM.callL [3, 1, 0, 2] [4, 5, 6, 7] rfl rfl (by decide) rfl hN477
  refine RD.p rfl rfl rfl rfl (fun w' => O.move rfl) ?_
  refine RD.p rfl rfl rfl rfl (fun w' => O.ext rfl rfl) ?_
  refine RD.p rfl rfl rfl rfl (fun w' => O.ext rfl rfl) ?_
  refine RD.p rfl rfl rfl rfl (fun w' => O.assign rfl) ?_
  refine RD.p rfl rfl rfl rfl (fun w' => O.assign rfl) (RD.nil (KQ.thn hQ467 ?_))
  refine KC.seqH fun Q489 hQ489 => ?_
  replace hM := hM.drewN 1
  refine KC.draw [] [12] [12] [0, 1, 2, 4, 6, 7, 9, 11, 13, 14, 15, 16, 17] (.ofList [0, 1, 2, 3, 4, 5, 6, 7, 8, 9, 10, 11, 12, 13, 14, 15, 16, 17]) moP (by kernel_rfl) ?_
  refine RD.p rfl rfl rfl rfl (fun w' => O.move rfl) ?_
  refine RD.p rfl rfl rfl rfl (fun w' => O.move rfl) ?_
  refine RD.p rfl rfl rfl rfl (fun w' => O.move rfl) ?_
  refine Xx hF fun xv492 hx491 hF => ?_
  have hA490 := Rd.atN (f := Zw) (s := 43) (fun _ => rfl) (by decide) (hM.inp hr5 Off.nil) hx491
  refine RD.q rfl rfl rfl rfl (fun w' hf => O.idxA sl25 (hA490.fut hf) rfl rfl) ?_
  refine RD.p rfl rfl rfl rfl (fun w' => O.fldA fl46_1 (by decide) rfl) ?_
  refine RD.q rfl rfl rfl rfl (fun w' hf => O.loadN (cs := (xv492.XH.cs)) ag44 rfl (Cs.addsN [1] (hA490.fut hf).cells rfl)) ?_
  refine RD.p rfl rfl rfl rfl (fun w' => O.move rfl) ?_
  refine RD.p rfl rfl rfl rfl (fun w' => O.move rfl) ?_
  refine Xx hF fun xv495 hx494 hF => ?_
  have hA493 := Rd.atN (f := Zw) (s := 43) (fun _ => rfl) (by decide) (hM.inp hr5 Off.nil) hx494
  refine RD.q rfl rfl rfl rfl (fun w' hf => O.idxA sl25 (hA493.fut hf) rfl rfl) ?_
  refine RD.p rfl rfl rfl rfl (fun w' => O.fldA fl46_2 (by decide) rfl) ?_
  refine RD.q rfl rfl rfl rfl (fun w' hf => O.load sc5 rfl (Cs.adds [41] (hA493.fut hf).cells rfl)) ?_
  refine RD.p rfl rfl rfl rfl (fun w' => O.move rfl) ?_
  refine Xx hF fun y496 hx497 hF => ?_
  refine RD.mcall rfl rfl trivial Tryz.func16 bd16 rfl rfl (Yp _ _ _ (Xl.mk d438 (Xg.mk d439 d440 d441 d442 d443) (Xw.mk d449 d450) d454) _ _ _ _ _ (hM.lent [3, 1, 0, 2] rfl (by decide)) xv492.XH xv495.XU (IntKind.u64.wrap (tick455 + (Int.tmod xv466.XK 8))) _ hx497) fun v w498 hv => ?_
  obtain ⟨g500, A502, c503, A505, c506, A508, c509, rfl, hN499⟩ := hv
  refine ⟨fun h => (by cases h), ?_⟩
  replace hM := hM.callL [3, 1, 0, 2] [4, 5, 6, 7, 8] rfl rfl (by decide) rfl hN499
  refine RD.p rfl rfl rfl rfl (fun w' => O.move rfl) ?_
  refine RD.p rfl rfl rfl rfl (fun w' => O.ext rfl rfl) ?_
  refine RD.p rfl rfl rfl rfl (fun w' => O.ext rfl rfl) ?_
  refine RD.p rfl rfl rfl rfl (fun w' => O.assign rfl) ?_
  refine RD.p rfl rfl rfl rfl (fun w' => O.assign rfl) (RD.nil (KQ.thn hQ489 ?_))
  refine KC.cut (fun a w520 => ∃ (t519 : Bool), Kn 145 [(1, .slice A3 (lv2).length c4), (2, v8 ticks6), (7, .pointer (some ⟨g182, 0, none⟩)), (9, .pointer (some ⟨g241, 0, none⟩)), (11, v64 (IntKind.u64.wrap (tick455 + (Int.tmod xv466.XK 8)))), (12, vI i456), (103, vB t519)] a ∧ Mem w [] w520 [.row A480 c481 140 39 (y474.2.2.Xf.Xp).length ((y474.2.2.Xf.Xp).flatMap Xt), .box g478 119 [.slice A480 (y474.2.2.Xf.Xp).length c481, vI y474.2.2.Xf.XG], .row A483 c484 62 44 (y474.2.2.Xh).length ((y474.2.2.Xh).flatMap Xn), .box g182 69 (v64 y474.2.2.XB :: (y474.2.2.Xb.cs ++ [.pointer (some ⟨g478, 0, none⟩), .slice A483 (y474.2.2.Xh).length c484])), .row A502 c503 140 39 (y496.2.2.Xf.Xp).length ((y496.2.2.Xf.Xp).flatMap Xt), .box g500 119 [.slice A502 (y496.2.2.Xf.Xp).length c503, vI y496.2.2.Xf.XG], .row A505 c506 62 44 (y496.2.2.Xh).length ((y496.2.2.Xh).flatMap Xn), .box g241 69 (v64 y496.2.2.XB :: (y496.2.2.Xb.cs ++ [.pointer (some ⟨g500, 0, none⟩), .slice A505 (y496.2.2.Xh).length c506]))] ∧ Jz tick455 i456 (Zo lv2 ticks6 k459) xv466 y474 y496 t519 = some r) ?_ ?_
  ·refine KC.region (vm rfl rfl (vm rfl rfl (RL.val (O.neq rfl rfl) rfl (vm rfl rfl ?_))))
   refine RL.bcase (t := 97) rfl (fun hc => ?_) (fun hc => ?_)
   ·rw [if_pos hc] at hF
    refine RL.gskip rfl rfl rfl rfl (RL.gskip rfl rfl rfl rfl (RL.gskip rfl rfl rfl rfl (RL.gskip rfl rfl rfl rfl (RL.gskip rfl rfl rfl rfl (RL.val (O.pickt rfl rfl) rfl (RL.nil ?_))))))
    refine KQ.Xy ?_
    replace hM := hM.pick [2, 1, 3, 0, 7, 6, 8, 5] rfl (by decide)
    exact fun a ha => ⟨true, ha.less (Xa rfl (Xa rfl (Xa rfl (Xa rfl (Xa rfl (Xa rfl (Xa rfl Xj))))))), hM, hF⟩
   rw [if_neg (Xv hc)] at hF
   refine RL.gval rfl rfl (O.move rfl) rfl (RL.gval rfl rfl (O.len sl55 rfl) rfl (RL.gval rfl rfl (O.move rfl) rfl (RL.gval rfl rfl (O.len sl55 rfl) rfl (RL.gval rfl rfl (O.neq rfl rfl) rfl (RL.val (O.pickf rfl rfl) rfl (RL.nil ?_))))))
   refine KQ.Xy ?_
   replace hM := hM.pick [2, 1, 3, 0, 7, 6, 8, 5] rfl (by decide)
   exact fun a ha => ⟨((y474.1.length : Int) != (y496.1.length : Int)), ha.less (Xa rfl (Xa rfl (Xa rfl (Xa rfl (Xa rfl (Xa rfl (Xa rfl Xj))))))), hM, hF⟩
  rintro a w520 ⟨t519, ha, hM, hF⟩
  refine KC.app ha ?_
  clear ha
  unfold Jz at hF
  refine KC.cond rfl (fun hc => ?_) (fun hc => ?_)
  ·rw [if_pos hc] at hF
   refine sr fun Q521 hQ521 => ?_
   refine va rfl rfl (nt hQ521 (KC.ret (KQ.blk_r (KQ.thr hQ462 (KQ.then_r (KQ.blk_r ?_))))))
   refine KQ.thr hQ253 ?_
   have hE := Option.some.inj hF
   clear hF
   subst hE
   replace hM := hM.pick [] rfl (by decide)
   refine KQ.rets Tryz.results13 (RVs.cons (RV.tm rfl) RVs.nil) ?_
   exact ⟨_, rfl, rfl, hM⟩
  rw [if_neg (Xv hc)] at hF
  refine KC.skip (KQ.blk_n (KQ.thn hQ462 (KC.region (vm rfl rfl (RL.val (O.add rfl rfl) rfl (va rfl rfl ?_))))))
  refine RL.nil (KQ.Xy ?_)
  exact fun a ha => ⟨k459, Nat.lt_succ_self k459, g478, A480, c481, A483, c484, g500, A502, c503, A505, c506, y474.2.2.XB, y474.2.2.Xb.Xz, y474.2.2.Xb.XI, y474.2.2.Xb.XA, y474.2.2.Xb.Xk, y474.2.2.Xb.Xr, y474.2.2.Xf.Xp, y474.2.2.Xf.XG, y474.2.2.Xh, y496.2.2.XB, y496.2.2.Xb.Xz, y496.2.2.Xb.XI, y496.2.2.Xb.XA, y496.2.2.Xb.Xk, y496.2.2.Xb.Xr, y496.2.2.Xf.Xp, y496.2.2.Xf.XG, y496.2.2.Xh, (IntKind.u64.wrap (tick455 + (Int.tmod xv466.XK 8))), (IntKind.i64.wrap (i456 + 1)), ha.less (Xa rfl (Xa rfl (Xa rfl (Xa rfl (Xa rfl (Xa rfl Xj)))))), hM, hF⟩
 rw [if_neg (Xv hc)] at hF
 refine KC.exit (KQ.thx hQ460 (KQ.then_x (KQ.blk_x (KQ.thn hQ253 ?_))))
 refine sr fun Q522 hQ522 => ?_
 refine vm rfl rfl (RL.val (O.rem rfl rfl (by decide)) rfl ?_)
 refine RL.val (O.conv un5 Tryz.underlying22 rfl) rfl (va rfl rfl (nt hQ522 ?_))
 refine sr fun Q523 hQ523 => ?_
 refine vm rfl rfl (vm rfl rfl (vm rfl rfl (RL.val (O.add rfl rfl) rfl ?_)))
 refine Xx hF fun y524 hx525 hF => ?_
 refine RL.call Tryz.func18 bd18 rfl rfl (Zz _ _ _ (Xl.mk cv420 (Xg.mk cv421 cv422 cv423 cv424 cv425) (Xw.mk cv431 cv432) cv436) _ _ _ _ _ (hM.lent [3, 1, 0, 2] rfl (by decide)) (IntKind.u64.wrap (tick455 + (IntKind.u64.wrap (Int.tmod ticks6 151)))) _ hx525) fun v w526 hv => ?_
 obtain ⟨g528, A530, c531, A533, c534, A536, c537, rfl, hN527⟩ := hv
 replace hM := hM.callL [3, 1, 0, 2] [4, 5, 6, 7] rfl rfl (by decide) rfl hN527
 refine va rfl rfl (nt hQ523 ?_)
 replace hM := hM.pick [0, 1, 2, 3, 8] rfl (by decide)
 refine sr fun Q539 hQ539 => ?_
 refine va rfl rfl (nt hQ539 ?_)
 refine KC.seqH fun Q540 hQ540 => ?_
 refine sr fun Q541 hQ541 => ?_
 refine va rfl rfl (nt hQ541 (KC.block ?_))
 refine KC.loop (fun k638 a w636 => ∃ (g620 : Nat) (A622 : Option Addr) (c623 : Nat) (A627 : Option Addr) (c628 : Nat) (A632 : Option Addr) (c633 : Nat) (d613 d614 d615 d616 d617 d618 : Int) (d624 : List Xm) (d625 : Int) (d629 got634 : List Xc) (t635 : Int), Kn 145 [(9, .pointer (some ⟨g241, 0, none⟩)), (11, v64 tick455), (17, v64 (IntKind.u64.wrap (Int.tmod ticks6 151))), (18, .slice A536 (y524.1).length c537), (19, .slice A632 (got634).length c633), (20, v64 t635)] a ∧ Mem w [] w636 [.row A622 c623 140 39 (d624).length ((d624).flatMap Xt), .box g620 119 [.slice A622 (d624).length c623, vI d625], .row A627 c628 62 44 (d629).length ((d629).flatMap Xn), .box g241 69 [v64 d613, vI d614, v64 d615, v64 d616, v64 d617, v64 d618, .pointer (some ⟨g620, 0, none⟩), .slice A627 (d629).length c628], .row A536 c537 62 44 (y524.1).length ((y524.1).flatMap Xn), .row A632 c633 62 44 (got634).length ((got634).flatMap Xn)] ∧ Zy ticks6 tick455 y524 k638 d613 d614 d615 d616 d617 d618 d624 d625 d629 got634 t635 = some r) ?_ ?_
 ·replace hM := hM.nilrow 62 44
  exact fun a ha => ⟨fuel0, g445, A447, c448, A452, c453, none, 0, d438, d439, d440, d441, d442, d443, d449, d450, d454, ([]), 0, ha.less (Xa rfl (Xa rfl (Xa rfl (Xa rfl (Xa rfl (Xa rfl Xj)))))), hM, hF⟩
 rintro k638 a w636 ⟨g620, A622, c623, A627, c628, A632, c633, d613, d614, d615, d616, d617, d618, d624, d625, d629, got634, t635, ha, hM, hF⟩
 refine KC.app ha ?_
 clear ha
 cases k638 with
 | zero => exact (Yl hF).elim
 | succ k638 =>
 have hF : JL (Zy ticks6 tick455 y524 k638) ticks6 tick455 y524 d613 d614 d615 d616 d617 d618 d624 d625 d629 got634 t635 = some r := hF
 unfold JL at hF
 refine KC.seqH fun Q639 hQ639 => ?_
 refine sr fun Q640 hQ640 => ?_
 refine vm rfl rfl (vm rfl rfl (RL.val (O.leq rfl rfl) rfl (nt hQ640 ?_)))
 refine KC.cond rfl (fun hc => ?_) (fun hc => ?_)
 ·rw [if_pos hc] at hF
  refine KC.skip (KQ.thn hQ639 ?_)
  refine KC.seqH fun Q641 hQ641 => ?_
  refine KC.block (KC.region (vm rfl rfl (vm rfl rfl (vm rfl rfl (vm rfl rfl (RL.val (O.add rfl rfl) rfl ?_))))))
  refine Xx hF fun y642 hx643 hF => ?_
  refine RL.call Tryz.func18 bd18 rfl rfl (Zz _ _ _ (Xl.mk d613 (Xg.mk d614 d615 d616 d617 d618) (Xw.mk d624 d625) d629) _ _ _ _ _ (hM.lent [3, 1, 0, 2] rfl (by decide)) (IntKind.u64.wrap (tick455 + t635)) _ hx643) fun v w644 hv => ?_
  obtain ⟨g646, A648, c649, A651, c652, A654, c655, rfl, hN645⟩ := hv
  replace hM := hM.callL [3, 1, 0, 2] [4, 5] rfl rfl (by decide) rfl hN645
  refine XZ hF fun hq660 hF => ?_
  refine RL.eff (E.app (enc := Xn) (xs := got634) (ys := y642.1) (j := 1) hM rfl sl55 ze62 rfl rfl rfl rfl rfl (hM.rd (i := 6) rfl) (fun _ => One.all rfl) (of_decide_eq_true hq660)) rfl fun v w659 hv => ?_
  clear hM
  obtain ⟨A657, c658, rfl, hM, hf⟩ := hv
  refine va rfl rfl (RL.nil (KQ.blk_n (KQ.thn hQ641 ?_)))
  replace hM := hM.pick [0, 1, 2, 3, 4, 5] rfl (by decide)
  refine KC.region (vm rfl rfl (RL.val (O.add rfl rfl) rfl (va rfl rfl (RL.nil (KQ.Xy ?_)))))
  replace hM := hM.pick [4, 3, 5, 2, 0, 1] rfl (by decide)
  exact fun a ha => ⟨k638, Nat.lt_succ_self k638, g646, A648, c649, A651, c652, A657, c658, y642.2.XB, y642.2.Xb.Xz, y642.2.Xb.XI, y642.2.Xb.XA, y642.2.Xb.Xk, y642.2.Xb.Xr, y642.2.Xf.Xp, y642.2.Xf.XG, y642.2.Xh, (got634 ++ y642.1), (IntKind.u64.wrap (t635 + 1)), ha.less (Xa rfl (Xa rfl (Xa rfl (Xa rfl (Xa rfl (Xa rfl Xj)))))), hM, hF⟩
 rw [if_neg (Xv hc)] at hF
 refine KC.exit (KQ.thx hQ639 (KQ.then_x (KQ.blk_x (KQ.thn hQ540 ?_))))
 replace hM := hM.pick [4, 5] rfl (by decide)
 refine KC.seqH fun Q662 hQ662 => ?_
 refine sr fun Q663 hQ663 => ?_
 refine vm rfl rfl (RL.val (O.len sl55 rfl) rfl (vm rfl rfl (RL.val (O.len sl55 rfl) rfl (RL.val (O.neq rfl rfl) rfl (nt hQ663 ?_)))))
 refine KC.cond rfl (fun hc => ?_) (fun hc => ?_)
 ·rw [if_pos hc] at hF
  refine sr fun Q664 hQ664 => ?_
  refine va rfl rfl (nt hQ664 (KC.ret (KQ.thr hQ662 ?_)))
  have hE := Option.some.inj hF
  clear hF
  subst hE
  replace hM := hM.pick [] rfl (by decide)
  refine KQ.rets Tryz.results13 (RVs.cons (RV.tm rfl) RVs.nil) ?_
  exact ⟨_, rfl, rfl, hM⟩
 rw [if_neg (Xv hc)] at hF
 refine KC.skip (KQ.thn hQ662 ?_)
 refine KC.seqH fun Q665 hQ665 => ?_
 refine sr fun Q666 hQ666 => ?_
 refine va rfl rfl (nt hQ666 (KC.block ?_))
 refine KC.loop (fun k697 a w695 => ∃ (i694 : Int), Kn 145 [(18, .slice A536 (y524.1).length c537), (19, .slice A632 (got634).length c633), (21, vI i694)] a ∧ Mem w [] w695 [.row A536 c537 62 44 (y524.1).length ((y524.1).flatMap Xn), .row A632 c633 62 44 (got634).length ((got634).flatMap Xn)] ∧ ZZ y524 got634 k697 i694 = some r) ?_ ?_
 ·exact fun a ha => ⟨fuel0, 0, ha.less (Xa rfl (Xa rfl (Xa rfl Xj))), hM, hF⟩
 rintro k697 a w695 ⟨i694, ha, hM, hF⟩
 refine KC.app ha ?_
 clear ha
 cases k697 with
 | zero => exact (Yl hF).elim
 | succ k697 =>
 have hF : JQ (ZZ y524 got634 k697) y524 got634 i694 = some r := hF
 unfold JQ at hF
 refine KC.seqH fun Q698 hQ698 => ?_
 refine sr fun Q699 hQ699 => ?_
 refine vm rfl rfl (vm rfl rfl (RL.val (O.len sl55 rfl) rfl (RL.val (O.lss rfl rfl) rfl (nt hQ699 ?_))))
 refine KC.cond rfl (fun hc => ?_) (fun hc => ?_)
 ·rw [if_pos hc] at hF
  refine KC.skip (KQ.thn hQ698 ?_)
  refine KC.seqH fun Q700 hQ700 => ?_
  refine KC.block ?_
  refine KC.seqH fun Q701 hQ701 => ?_
  replace hM := hM.drewN 1
  refine KC.draw [] [] [] [0, 1, 4, 5, 8] (.ofList [0, 1, 2, 3, 4, 5, 6, 7, 8]) moP (by kernel_rfl) ?_
  refine RD.p rfl rfl rfl rfl (fun w' => O.move rfl) ?_
  refine RD.p rfl rfl rfl rfl (fun w' => O.move rfl) ?_
  refine Xx hF fun xv704 hx703 hF => ?_
  have hA702 := Rd.atN (f := Xn) (s := 44) (fun _ => rfl) (by decide) (hM.rd (i := 1) rfl) hx703
  refine RD.q rfl rfl rfl rfl (fun w' hf => O.idxA sl55 (hA702.fut hf) rfl rfl) ?_
  refine RD.q rfl rfl rfl rfl (fun w' hf => O.loadN (cs := (xv704.cs)) ag62 rfl (hA702.fut hf).cells) ?_
  refine RD.p rfl rfl rfl rfl (fun w' => O.move rfl) ?_
  refine RD.p rfl rfl rfl rfl (fun w' => O.move rfl) ?_
  refine Xx hF fun xv707 hx706 hF => ?_
  have hA705 := Rd.atN (f := Xn) (s := 44) (fun _ => rfl) (by decide) (hM.rd (i := 0) rfl) hx706
  refine RD.q rfl rfl rfl rfl (fun w' hf => O.idxA sl55 (hA705.fut hf) rfl rfl) ?_
  refine RD.q rfl rfl rfl rfl (fun w' hf => O.loadN (cs := (xv707.cs)) ag62 rfl (hA705.fut hf).cells) ?_
  refine RD.p rfl rfl rfl rfl (fun w' => O.stne (cs := (xv704.cs)) (cs' := (xv707.cs)) (by kernel_rfl) rfl rfl (Q62t xv704 xv707 _ rfl rfl)) ?_
  refine RD.nil (KQ.thn hQ701 ?_)
  refine KC.cond rfl (fun hc => ?_) (fun hc => ?_)
  ·rw [if_pos hc] at hF
   refine sr fun Q708 hQ708 => ?_
   refine va rfl rfl (nt hQ708 (KC.ret (KQ.blk_r (KQ.thr hQ700 (KQ.then_r (KQ.blk_r ?_))))))
   refine KQ.thr hQ665 ?_
   have hE := Option.some.inj hF
   clear hF
   subst hE
   replace hM := hM.pick [] rfl (by decide)
   refine KQ.rets Tryz.results13 (RVs.cons (RV.tm rfl) RVs.nil) ?_
   exact ⟨_, rfl, rfl, hM⟩
  rw [if_neg (Xv hc)] at hF
  refine KC.skip (KQ.blk_n (KQ.thn hQ700 (KC.region (vm rfl rfl (RL.val (O.add rfl rfl) rfl (va rfl rfl ?_))))))
  refine RL.nil (KQ.Xy ?_)
  exact fun a ha => ⟨k697, Nat.lt_succ_self k697, (IntKind.i64.wrap (i694 + 1)), ha.less (Xa rfl (Xa rfl (Xa rfl Xj))), hM, hF⟩
 rw [if_neg (Xv hc)] at hF
 refine KC.exit (KQ.thx hQ698 (KQ.then_x (KQ.blk_x (KQ.thn hQ665 ?_))))
 replace hM := hM.pick [] rfl (by decide)
 refine sr fun Q709 hQ709 => ?_
 refine Xx hF fun y710 hx711 hF => ?_
 refine RL.call Tryz.func5 bd5 rfl rfl (YR _ _ hx711) fun v w712 hv => ?_
 obtain ⟨rfl, hN713⟩ := hv
 replace hM := hM.call0 hN713
 refine va rfl rfl (nt hQ709 (KC.ret ?_))
 have hE := Option.some.inj hF
 clear hF
 subst hE
 refine KQ.rets Tryz.results13 (RVs.cons (RV.tm rfl) RVs.nil) ?_
 exact ⟨_, rfl, rfl, hM⟩
end Go.Proofs.YtkpnocgfhipidaaGreat
