/- Printed by a program of this claim: each call returns what the plain function of its name gives. -/
import Derived.Test.YtkpnocgfhipidaaGreatW1
import Derived.Test.YtkpnocgfhipidaaGreatW2
import Derived.Test.YtkpnocgfhipidaaGreatW3
import Derived.Test.YtkpnocgfhipidaaGreatW4
import Derived.Test.YtkpnocgfhipidaaGreatW5
import Derived.Test.YtkpnocgfhipidaaGreatW6
import Derived.Test.YtkpnocgfhipidaaGreatW7
import Derived.Test.YtkpnocgfhipidaaGreatW8
import Derived.Test.YtkpnocgfhipidaaGreatW9
import Derived.Test.YtkpnocgfhipidaaGreatW10
import Derived.Test.YtkpnocgfhipidaaGreatW11
import Derived.Test.YtkpnocgfhipidaaGreatW12
import Derived.Test.YtkpnocgfhipidaaGreatW13
import Derived.Test.YtkpnocgfhipidaaGreatW14
import Derived.Test.YtkpnocgfhipidaaGreatW15
import Derived.Test.YtkpnocgfhipidaaGreatW16
import Derived.Test.YtkpnocgfhipidaaGreatW17
import Derived.Test.YtkpnocgfhipidaaGreatW18
import Derived.Test.YtkpnocgfhipidaaGreatW19
set_option linter.unusedVariables false
set_option maxRecDepth 100000
set_option maxHeartbeats 40000000
namespace Go.Proofs.YtkpnocgfhipidaaGreat
open Go Go.Ox Go.RowKit
theorem V7 (w : World) (p1 : XC) (class2 tick3 : Int) (r : (List Xc) × Int) (hF : KY p1 class2 tick3 = some r) :
  CallsR Tryz.prog 16 [.pointer none, .agg (p1.cs).toArray, v8 class2, v64 tick3] w (fun v w' => ∃ (A0 : Option Addr) (c0 : Nat), v = .tuple #[.slice A0 (r.1).length c0, vI r.2] ∧ Mem w [] w' [.row A0 c0 62 44 r.1.length (r.1.flatMap Xn)]) := by
 refine XJ Tryz.func16 rfl Tryz.ntmps16 rfl ?_
 have hM := Mem.init w
 unfold KY at hF
 refine sr fun Q4 hQ4 => ?_
 refine RL.eff (E.box (vs := (p1.cs)) hM rfl rfl) rfl fun v w6 hv => ?_
 clear hM
 obtain ⟨g5, rfl, hM, hf⟩ := hv
 refine va rfl rfl (va rfl rfl (nt hQ4 ?_))
 refine KC.seqH fun Q8 hQ8 => ?_
 refine KC.block ?_
 refine sr fun Q9 hQ9 => ?_
 refine vm rfl rfl (RL.val (O.peqn Tryz.underlying27 rfl rfl) rfl (va rfl rfl (nt hQ9 (KC.condT rfl ?_))))
 refine sr fun Q10 hQ10 => ?_
 refine va rfl rfl (va rfl rfl (nt hQ10 (KC.ret (KQ.blk_r (KQ.thr hQ8 ?_)))))
 have hE := Option.some.inj hF
 clear hF
 subst hE
 replace hM := hM.nilrow 62 44
 replace hM := hM.pick [1] rfl (by decide)
 refine KQ.rets Tryz.results16 (RVs.cons (RV.tm rfl) (RVs.cons (RV.tm rfl) RVs.nil)) ?_
 exact ⟨_, rfl, none, 0, rfl, hM⟩
theorem Xao (w : World) (r : Int × Bool) (hF : U0 = some r) :
  CallsR Tryz.prog 17 [.pointer none] w (fun v w' => v = .tuple #[v64 r.1, vB r.2] ∧ Mem w [] w' []) := by
 refine XJ Tryz.func17 rfl Tryz.ntmps17 rfl ?_
 have hM := Mem.init w
 unfold U0 at hF
 refine sr fun Q1 hQ1 => ?_
 refine va rfl rfl (va rfl rfl (nt hQ1 ?_))
 refine KC.seqH fun Q2 hQ2 => ?_
 refine sr fun Q3 hQ3 => ?_
 refine vm rfl rfl (RL.val (O.peqn Tryz.underlying27 rfl rfl) rfl (nt hQ3 (KC.condT rfl ?_)))
 refine sr fun Q4 hQ4 => ?_
 refine va rfl rfl (va rfl rfl (nt hQ4 (KC.ret (KQ.thr hQ2 ?_))))
 have hE := Option.some.inj hF
 clear hF
 subst hE
 refine KQ.rets Tryz.results17 (RVs.cons (RV.tm rfl) (RVs.cons (RV.tm rfl) RVs.nil)) ?_
 exact ⟨_, rfl, rfl, hM⟩
theorem XaC (w : World) (kv1 : Xe) (r : Xc × Bool) (hF : U3 kv1 = some r) :
  CallsR Tryz.prog 29 [.pointer none, .agg (kv1.cs).toArray] w (fun v w' => v = .tuple #[.agg (r.1.cs).toArray, vB r.2] ∧ Mem w [] w' []) := by
 refine XJ Tryz.func29 rfl Tryz.ntmps29 rfl ?_
 have hM := Mem.init w
 unfold U3 at hF
 refine sr fun Q2 hQ2 => ?_
 refine RL.eff (E.box (vs := (kv1.cs)) hM rfl rfl) rfl fun v w4 hv => ?_
 clear hM
 obtain ⟨g3, rfl, hM, hf⟩ := hv
 refine RL.eff (E.alloc hM ze62) rfl fun v w7 hv => ?_
 clear hM
 obtain ⟨g6, rfl, hM, hf⟩ := hv
 refine va rfl rfl (nt hQ2 ?_)
 refine KC.seqH fun Q9 hQ9 => ?_
 refine sr fun Q10 hQ10 => ?_
 refine vm rfl rfl (RL.val (O.peqn Tryz.underlying27 rfl rfl) rfl (nt hQ10 (KC.condT rfl ?_)))
 refine sr fun Q11 hQ11 => ?_
 refine RL.val (O.bld (cs := (vB false :: (a16 (List.replicate 16 0) ++ (vB false :: (a16 (List.replicate 16 0) ++ [v8 0, v16 0, v16 0, v64 0, v64 0, v64 0, v64 0, v8 0, v8 0, v8 0]))))) bt62 rfl (by kernel_rfl)) rfl ?_
 refine RL.effs (E.stB (j := 1) (off := 0) (vs := (vB false :: (a16 (List.replicate 16 0) ++ (vB false :: (a16 (List.replicate 16 0) ++ [v8 0, v16 0, v16 0, v64 0, v64 0, v64 0, v64 0, v8 0, v8 0, v8 0]))))) (cs' := (vB false :: (a16 (List.replicate 16 0) ++ (vB false :: (a16 (List.replicate 16 0) ++ [v8 0, v16 0, v16 0, v64 0, v64 0, v64 0, v64 0, v8 0, v8 0, v8 0]))))) hM rfl sz62 rfl (XX [] rfl) rfl rfl (One.all rfl) rfl rfl) fun w12 hM1 => ?_
 clear hM
 have hM := hM1
 clear hM1
 refine va rfl rfl (nt hQ11 (KC.ret (KQ.thr hQ9 ?_)))
 have hE := Option.some.inj hF
 clear hF
 subst hE
 have hb13 := hM.bx (i := 1) rfl
 replace hM := hM.pick [] rfl (by decide)
 refine KQ.rets Tryz.results29 (RVs.cons (RV.cN (cs := (vB false :: (a16 (List.replicate 16 0) ++ (vB false :: (a16 (List.replicate 16 0) ++ [v8 0, v16 0, v16 0, v64 0, v64 0, v64 0, v64 0, v8 0, v8 0, v8 0]))))) rfl ag62 hb13) (RVs.cons (RV.tm rfl) RVs.nil)) ?_
 exact ⟨_, rfl, rfl, hM⟩
theorem Xac (w : World) (tick1 : Int) (r : (List Xc)) (hF : K6 tick1 = some r) :
  CallsR Tryz.prog 18 [.pointer none, v64 tick1] w (fun v w' => ∃ (A0 : Option Addr) (c0 : Nat), v = .slice A0 (r).length c0 ∧ Mem w [] w' [.row A0 c0 62 44 r.length (r.flatMap Xn)]) := by
 refine XJ Tryz.func18 rfl Tryz.ntmps18 rfl ?_
 have hM := Mem.init w
 unfold K6 at hF
 refine sr fun Q2 hQ2 => ?_
 refine RL.eff (E.box (vs := [.pointer none]) hM rfl rfl) rfl fun v w4 hv => ?_
 clear hM
 obtain ⟨g3, rfl, hM, hf⟩ := hv
 refine va rfl rfl (nt hQ2 ?_)
 refine KC.seqH fun Q6 hQ6 => ?_
 refine KC.cut (fun a w8 => Kn 48 [(1, v64 tick1), (2, .pointer (some ⟨g3, 0, none⟩)), (17, vB true)] a ∧ Mem w [] w8 [.box g3 27 [.pointer none]] ∧ Kt = some r) ?_ ?_
 ·refine KC.region (RL.val (O.load sc27 rfl (Cs.adds [] ((hM.bx (i := 0) rfl)) rfl)) rfl (RL.val (O.peqn Tryz.underlying27 rfl rfl) rfl (RL.brun1 8 17 true (by kernel_rfl) ?_)))
  refine RL.nil (KQ.Xy ?_)
  exact fun a ha => ⟨ha.less (Xa rfl (Xa rfl (Xa rfl Xj))), hM, hF⟩
 rintro a w8 ⟨ha, hM, hF⟩
 refine KC.app ha ?_
 clear ha
 unfold Kt at hF
 refine KC.condT rfl ?_
 refine sr fun Q9 hQ9 => ?_
 refine va rfl rfl (nt hQ9 (KC.ret (KQ.thr hQ6 ?_)))
 have hE := Option.some.inj hF
 clear hF
 subst hE
 replace hM := hM.nilrow 62 44
 replace hM := hM.pick [1] rfl (by decide)
 refine KQ.rets Tryz.results18 (RVs.cons (RV.tm rfl) RVs.nil) ?_
 exact ⟨_, rfl, none, 0, rfl, hM⟩
theorem Xah (w : World) (r : (List Xc)) (hF : UO = some r) :
  CallsR Tryz.prog 25 [.pointer none] w (fun v w' => ∃ (A0 : Option Addr) (c0 : Nat), v = .slice A0 (r).length c0 ∧ Mem w [] w' [.row A0 c0 62 44 r.length (r.flatMap Xn)]) := by
 refine XJ Tryz.func25 rfl Tryz.ntmps25 rfl ?_
 have hM := Mem.init w
 unfold UO at hF
 refine sr fun Q1 hQ1 => ?_
 refine va rfl rfl (nt hQ1 ?_)
 refine KC.seqH fun Q2 hQ2 => ?_
 refine sr fun Q3 hQ3 => ?_
 refine vm rfl rfl (RL.val (O.peqn Tryz.underlying27 rfl rfl) rfl (nt hQ3 (KC.condT rfl ?_)))
 refine sr fun Q4 hQ4 => ?_
 refine va rfl rfl (nt hQ4 (KC.ret (KQ.thr hQ2 ?_)))
 have hE := Option.some.inj hF
 clear hF
 subst hE
 replace hM := hM.nilrow 62 44
 refine KQ.rets Tryz.results25 (RVs.cons (RV.tm rfl) RVs.nil) ?_
 exact ⟨_, rfl, none, 0, rfl, hM⟩
theorem Xax (w : World) (r : (List Xc)) (hF : U4 = some r) :
  CallsR Tryz.prog 33 [.pointer none] w (fun v w' => ∃ (A0 : Option Addr) (c0 : Nat), v = .slice A0 (r).length c0 ∧ Mem w [] w' [.row A0 c0 62 44 r.length (r.flatMap Xn)]) := by
 refine XJ Tryz.func33 rfl Tryz.ntmps33 rfl ?_
 have hM := Mem.init w
 unfold U4 at hF
 refine sr fun Q1 hQ1 => ?_
 refine va rfl rfl (nt hQ1 ?_)
 refine KC.seqH fun Q2 hQ2 => ?_
 refine sr fun Q3 hQ3 => ?_
 refine vm rfl rfl (RL.val (O.peqn Tryz.underlying27 rfl rfl) rfl (nt hQ3 (KC.condT rfl ?_)))
 refine sr fun Q4 hQ4 => ?_
 refine va rfl rfl (nt hQ4 (KC.ret (KQ.thr hQ2 ?_)))
 have hE := Option.some.inj hF
 clear hF
 subst hE
 replace hM := hM.nilrow 62 44
 refine KQ.rets Tryz.results33 (RVs.cons (RV.tm rfl) RVs.nil) ?_
 exact ⟨_, rfl, none, 0, rfl, hM⟩
theorem Xam (w : World) (r : Int) (hF : UZ = some r) :
  CallsR Tryz.prog 34 [.pointer none] w (fun v w' => v = v64 r ∧ Mem w [] w' []) := by
 refine XJ Tryz.func34 rfl Tryz.ntmps34 rfl ?_
 have hM := Mem.init w
 unfold UZ at hF
 refine sr fun Q1 hQ1 => ?_
 refine va rfl rfl (nt hQ1 ?_)
 refine KC.seqH fun Q2 hQ2 => ?_
 refine sr fun Q3 hQ3 => ?_
 refine vm rfl rfl (RL.val (O.peqn Tryz.underlying27 rfl rfl) rfl (nt hQ3 (KC.condT rfl ?_)))
 refine sr fun Q4 hQ4 => ?_
 refine va rfl rfl (nt hQ4 (KC.ret (KQ.thr hQ2 ?_)))
 have hE := Option.some.inj hF
 clear hF
 subst hE
 refine KQ.rets Tryz.results34 (RVs.cons (RV.tm rfl) RVs.nil) ?_
 exact ⟨_, rfl, rfl, hM⟩
theorem Xai (w : World) (r : Int) (hF : UA = some r) :
  CallsR Tryz.prog 27 [.pointer none] w (fun v w' => v = vI r ∧ Mem w [] w' []) := by
 refine XJ Tryz.func27 rfl Tryz.ntmps27 rfl ?_
 have hM := Mem.init w
 unfold UA at hF
 refine sr fun Q1 hQ1 => ?_
 refine va rfl rfl (nt hQ1 ?_)
 refine KC.seqH fun Q2 hQ2 => ?_
 refine sr fun Q3 hQ3 => ?_
 refine vm rfl rfl (RL.val (O.peqn Tryz.underlying27 rfl rfl) rfl (nt hQ3 (KC.condT rfl ?_)))
 refine sr fun Q4 hQ4 => ?_
 refine va rfl rfl (nt hQ4 (KC.ret (KQ.thr hQ2 ?_)))
 have hE := Option.some.inj hF
 clear hF
 subst hE
 refine KQ.rets Tryz.results27 (RVs.cons (RV.tm rfl) RVs.nil) ?_
 exact ⟨_, rfl, rfl, hM⟩
theorem XaM (w : World) (av1 : XF) (r : Bool) (hF : KS av1 = some r) :
  CallsR Tryz.prog 14 [.agg (av1.cs).toArray] w (fun v w' => v = vB r ∧ Mem w [] w' []) := by
 refine XJ Tryz.func14 rfl Tryz.ntmps14 rfl ?_
 have hM := Mem.init w
 unfold KS at hF
 refine sr fun Q2 hQ2 => ?_
 refine RL.eff (E.box (vs := (av1.cs)) hM rfl rfl) rfl fun v w4 hv => ?_
 clear hM
 obtain ⟨g3, rfl, hM, hf⟩ := hv
 refine va rfl rfl (nt hQ2 ?_)
 refine sr fun Q6 hQ6 => ?_
 refine va rfl rfl (nt hQ6 ?_)
 refine sr fun Q7 hQ7 => ?_
 refine vm rfl rfl (RL.val (O.fldA fl46_1 (by decide) rfl) rfl ?_)
 refine RL.val (O.loadN (cs := (av1.XH.cs)) ag44 rfl (Cs.addsN [1] ((hM.bx (i := 0) rfl)) rfl)) rfl (RL.val (O.fldA fl46_2 (by decide) rfl) rfl ?_)
 refine RL.val (O.load sc5 rfl (Cs.adds [41] ((hM.bx (i := 0) rfl)) rfl)) rfl (RL.val (O.fldA fl46_3 (by decide) rfl) rfl ?_)
 refine RL.val (O.load sc22 rfl (Cs.adds [42] ((hM.bx (i := 0) rfl)) rfl)) rfl ?_
 refine Xx hF fun y8 hx9 hF => ?_
 refine RL.call Tryz.func16 bd16 rfl rfl (V7 _ av1.XH av1.XU av1.XK _ hx9) fun v w10 hv => ?_
 obtain ⟨A12, c13, rfl, hN11⟩ := hv
 replace hM := hM.call hN11
 refine vm rfl rfl (RL.val (O.ext rfl rfl) rfl (RL.val (O.ext rfl rfl) rfl (va rfl rfl (va rfl rfl (nt hQ7 ?_)))))
 refine sr fun Q15 hQ15 => ?_
 refine vm rfl rfl ?_
 refine Xx hF fun y16 hx17 hF => ?_
 refine RL.call Tryz.func17 bd17 rfl rfl (Xao _ _ hx17) fun v w18 hv => ?_
 obtain ⟨rfl, hN19⟩ := hv
 replace hM := hM.call0 hN19
 refine vm rfl rfl (RL.val (O.ext rfl rfl) rfl (RL.val (O.ext rfl rfl) rfl (va rfl rfl (va rfl rfl (nt hQ15 ?_)))))
 refine sr fun Q20 hQ20 => ?_
 refine vm rfl rfl (RL.val (O.fldA fl46_1 (by decide) rfl) rfl ?_)
 refine RL.val (O.fldA fl44_0 (by decide) rfl) rfl ?_
 refine RL.val (O.loadN (cs := (av1.XH.Xo.cs)) ag42 rfl (Cs.addsN [1, 0] ((hM.bx (i := 0) rfl)) rfl)) rfl ?_
 refine Xx hF fun y21 hx22 hF => ?_
 refine RL.call Tryz.func29 bd29 rfl rfl (XaC _ av1.XH.Xo _ hx22) fun v w23 hv => ?_
 obtain ⟨rfl, hN24⟩ := hv
 replace hM := hM.call0 hN24
 refine vm rfl rfl (RL.val (O.ext rfl rfl) rfl (RL.val (O.ext rfl rfl) rfl ?_))
 refine RL.eff (E.alloc hM ze62) rfl fun v w26 hv => ?_
 clear hM
 obtain ⟨g25, rfl, hM, hf⟩ := hv
 refine RL.effs (E.stB (j := 2) (off := 0) (vs := (y21.1.cs)) (cs' := (y21.1.cs)) hM rfl sz62 rfl (XX [] rfl) rfl rfl (One.all rfl) rfl rfl) fun w28 hM1 => ?_
 clear hM
 have hM := hM1
 clear hM1
 refine va rfl rfl (nt hQ20 ?_)
 refine KC.cut (fun a w63 => ∃ (t62 : Bool), Kn 91 [(2, vB t62)] a ∧ Mem w [] w63 [] ∧ Yi t62 = some r) ?_ ?_
 ·refine KC.region (vm rfl rfl (RL.val (O.len sl55 rfl) rfl (RL.val (O.eql rfl rfl) rfl (vm rfl rfl ?_))))
  refine RL.bcase (t := 37) rfl (fun hc => ?_) (fun hc => ?_)
  ·rw [if_pos hc] at hF
   refine RL.gval rfl rfl (O.move rfl) rfl (RL.gval rfl rfl (O.eql rfl rfl) rfl (RL.val (O.pickt rfl rfl) rfl (vm rfl rfl ?_)))
   refine RL.bcase (t := 41) rfl (fun hc => ?_) (fun hc => ?_)
   ·rw [if_pos hc] at hF
    refine RL.gval rfl rfl (O.move rfl) rfl (RL.gval rfl rfl (O.fldA fl46_3 (by decide) rfl) rfl ?_)
    refine RL.gval rfl rfl (O.load sc22 rfl (Cs.adds [42] ((hM.bx (i := 0) rfl)) rfl)) rfl ?_
    refine Xx hF fun y29 hx30 hF => ?_
    refine RL.gcall rfl rfl Tryz.func18 bd18 rfl rfl (Xac _ av1.XK _ hx30) fun v w31 hv => ?_
    obtain ⟨A33, c34, rfl, hN32⟩ := hv
    replace hM := hM.call hN32
    refine RL.gval rfl rfl (O.len sl55 rfl) rfl (RL.gval rfl rfl (O.eql rfl rfl) rfl (RL.val (O.pickt rfl rfl) rfl (vm rfl rfl ?_)))
    refine RL.bcase (t := 49) rfl (fun hc => ?_) (fun hc => ?_)
    ·rw [if_pos hc] at hF
     refine RL.gval rfl rfl (O.move rfl) rfl ?_
     refine Xx hF fun y36 hx37 hF => ?_
     refine RL.gcall rfl rfl Tryz.func25 bd25 rfl rfl (Xah _ _ hx37) fun v w38 hv => ?_
     obtain ⟨A40, c41, rfl, hN39⟩ := hv
     replace hM := hM.call hN39
     refine RL.gval rfl rfl (O.len sl55 rfl) rfl (RL.gval rfl rfl (O.eql rfl rfl) rfl (RL.val (O.pickt rfl rfl) rfl (vm rfl rfl ?_)))
     refine RL.bcase (t := 55) rfl (fun hc => ?_) (fun hc => ?_)
     ·rw [if_pos hc] at hF
      refine RL.gval rfl rfl (O.move rfl) rfl (RL.gval rfl rfl (O.eql rfl rfl) rfl (RL.val (O.pickt rfl rfl) rfl (vm rfl rfl ?_)))
      refine RL.bcase (t := 59) rfl (fun hc => ?_) (fun hc => ?_)
      ·rw [if_pos hc] at hF
       refine RL.gval rfl rfl (O.move rfl) rfl (RL.gval rfl rfl (O.not rfl) rfl (RL.val (O.pickt rfl rfl) rfl (vm rfl rfl ?_)))
       refine RL.bcase (t := 63) rfl (fun hc => ?_) (fun hc => ?_)
       ·rw [if_pos hc] at hF
        refine RL.gval rfl rfl (O.move rfl) rfl ?_
        refine Xx hF fun y43 hx44 hF => ?_
        refine RL.gcall rfl rfl Tryz.func33 bd33 rfl rfl (Xax _ _ hx44) fun v w45 hv => ?_
        obtain ⟨A47, c48, rfl, hN46⟩ := hv
        replace hM := hM.call hN46
        refine RL.gval rfl rfl (O.len sl55 rfl) rfl (RL.gval rfl rfl (O.eql rfl rfl) rfl (RL.val (O.pickt rfl rfl) rfl (vm rfl rfl ?_)))
        refine RL.bcase (t := 69) rfl (fun hc => ?_) (fun hc => ?_)
        ·rw [if_pos hc] at hF
         refine RL.gval rfl rfl (O.loadN (cs := (y21.1.cs)) ag62 rfl (Cs.addsN [] ((hM.bx (i := 2) rfl)) rfl)) rfl (RL.gval rfl rfl (O.bld (cs := (vB false :: (a16 (List.replicate 16 0) ++ (vB false :: (a16 (List.replicate 16 0) ++ [v8 0, v16 0, v16 0, v64 0, v64 0, v64 0, v64 0, v8 0, v8 0, v8 0]))))) bt62 rfl (by kernel_rfl)) rfl ?_)
         refine RL.gval rfl rfl (O.steq (cs := (y21.1.cs)) (cs' := (vB false :: (a16 (List.replicate 16 0) ++ (vB false :: (a16 (List.replicate 16 0) ++ [v8 0, v16 0, v16 0, v64 0, v64 0, v64 0, v64 0, v8 0, v8 0, v8 0]))))) (by kernel_rfl) rfl rfl (Q62t y21.1 (Xc.mk (Xe.mk (Xd.mk false (List.replicate 16 0)) (Xd.mk false (List.replicate 16 0)) 0 0 0) 0 0 0 0 0 0 0) _ rfl rfl)) rfl ?_
         refine RL.val (O.pickt rfl rfl) rfl (vm rfl rfl ?_)
         refine RL.bcase (t := 74) rfl (fun hc => ?_) (fun hc => ?_)
         ·rw [if_pos hc] at hF
          refine RL.gval rfl rfl (O.move rfl) rfl (RL.gval rfl rfl (O.not rfl) rfl (RL.val (O.pickt rfl rfl) rfl (vm rfl rfl ?_)))
          refine RL.bcase (t := 78) rfl (fun hc => ?_) (fun hc => ?_)
          ·rw [if_pos hc] at hF
           refine RL.gval rfl rfl (O.move rfl) rfl ?_
           refine Xx hF fun y50 hx51 hF => ?_
           refine RL.gcall rfl rfl Tryz.func34 bd34 rfl rfl (Xam _ _ hx51) fun v w52 hv => ?_
           obtain ⟨rfl, hN53⟩ := hv
           replace hM := hM.call0 hN53
           refine RL.gval rfl rfl (O.eql rfl rfl) rfl (RL.val (O.pickt rfl rfl) rfl (vm rfl rfl ?_))
           refine RL.bcase (t := 83) rfl (fun hc => ?_) (fun hc => ?_)
           ·rw [if_pos hc] at hF
            refine RL.gval rfl rfl (O.move rfl) rfl ?_
            refine Xx hF fun y54 hx55 hF => ?_
            refine RL.gcall rfl rfl Tryz.func27 bd27 rfl rfl (Xai _ _ hx55) fun v w56 hv => ?_
            obtain ⟨rfl, hN57⟩ := hv
            replace hM := hM.call0 hN57
            refine RL.gval rfl rfl (O.eql rfl rfl) rfl (RL.val (O.pickt rfl rfl) rfl (vm rfl rfl ?_))
            refine RL.bcase (t := 88) rfl (fun hc => ?_) (fun hc => ?_)
            ·rw [if_pos hc] at hF
             refine Xx hF fun y58 hx59 hF => ?_
             refine RL.gcall rfl rfl Tryz.func5 bd5 rfl rfl (YR _ _ hx59) fun v w60 hv => ?_
             obtain ⟨rfl, hN61⟩ := hv
             replace hM := hM.call0 hN61
             refine RL.val (O.pickt rfl rfl) rfl (va rfl rfl (RL.nil (KQ.Xy ?_)))
             replace hM := hM.pick [] rfl (by decide)
             exact fun a ha => ⟨y58, ha.less (Xa rfl Xj), hM, hF⟩
            rw [if_neg (Xv hc)] at hF
            refine RL.gskip rfl rfl rfl rfl (RL.val (O.pickf rfl rfl) rfl (va rfl rfl (RL.nil (KQ.Xy ?_))))
            replace hM := hM.pick [] rfl (by decide)
            exact fun a ha => ⟨false, ha.less (Xa rfl Xj), hM, hF⟩
           rw [if_neg (Xv hc)] at hF
           refine RL.brun1 7 90 false (by kernel_rfl) ?_
           refine va rfl rfl (RL.nil (KQ.Xy ?_))
           replace hM := hM.pick [] rfl (by decide)
           exact fun a ha => ⟨false, ha.less (Xa rfl Xj), hM, hF⟩
          rw [if_neg (Xv hc)] at hF
          refine RL.brun1 12 90 false (by kernel_rfl) ?_
          refine va rfl rfl (RL.nil (KQ.Xy ?_))
          replace hM := hM.pick [] rfl (by decide)
          exact fun a ha => ⟨false, ha.less (Xa rfl Xj), hM, hF⟩
         rw [if_neg (Xv hc)] at hF
         refine RL.brun1 16 90 false (by kernel_rfl) ?_
         refine va rfl rfl (RL.nil (KQ.Xy ?_))
         replace hM := hM.pick [] rfl (by decide)
         exact fun a ha => ⟨false, ha.less (Xa rfl Xj), hM, hF⟩
        rw [if_neg (Xv hc)] at hF
        refine RL.brun1 21 90 false (by kernel_rfl) ?_
        refine va rfl rfl (RL.nil (KQ.Xy ?_))
        replace hM := hM.pick [] rfl (by decide)
        exact fun a ha => ⟨false, ha.less (Xa rfl Xj), hM, hF⟩
       rw [if_neg (Xv hc)] at hF
       refine RL.brun1 27 90 false (by kernel_rfl) ?_
       refine va rfl rfl (RL.nil (KQ.Xy ?_))
       replace hM := hM.pick [] rfl (by decide)
       exact fun a ha => ⟨false, ha.less (Xa rfl Xj), hM, hF⟩
      rw [if_neg (Xv hc)] at hF
      refine RL.brun1 31 90 false (by kernel_rfl) ?_
      refine va rfl rfl (RL.nil (KQ.Xy ?_))
      replace hM := hM.pick [] rfl (by decide)
      exact fun a ha => ⟨false, ha.less (Xa rfl Xj), hM, hF⟩
     rw [if_neg (Xv hc)] at hF
     refine RL.brun1 35 90 false (by kernel_rfl) ?_
     refine va rfl rfl (RL.nil (KQ.Xy ?_))
     replace hM := hM.pick [] rfl (by decide)
     exact fun a ha => ⟨false, ha.less (Xa rfl Xj), hM, hF⟩
    rw [if_neg (Xv hc)] at hF
    refine RL.brun1 41 90 false (by kernel_rfl) ?_
    refine va rfl rfl (RL.nil (KQ.Xy ?_))
    replace hM := hM.pick [] rfl (by decide)
    exact fun a ha => ⟨false, ha.less (Xa rfl Xj), hM, hF⟩
   rw [if_neg (Xv hc)] at hF
   refine RL.brun1 49 90 false (by kernel_rfl) ?_
   refine va rfl rfl (RL.nil (KQ.Xy ?_))
   replace hM := hM.pick [] rfl (by decide)
   exact fun a ha => ⟨false, ha.less (Xa rfl Xj), hM, hF⟩
  rw [if_neg (Xv hc)] at hF
  refine RL.brun1 53 90 false (by kernel_rfl) ?_
  refine va rfl rfl (RL.nil (KQ.Xy ?_))
  replace hM := hM.pick [] rfl (by decide)
  exact fun a ha => ⟨false, ha.less (Xa rfl Xj), hM, hF⟩
 rintro a w63 ⟨t62, ha, hM, hF⟩
 refine KC.app ha ?_
 clear ha
 unfold Yi at hF
 refine KC.ret ?_
 have hE := Option.some.inj hF
 clear hF
 subst hE
 refine KQ.rets Tryz.results14 (RVs.cons (RV.tm rfl) RVs.nil) ?_
 exact ⟨_, rfl, rfl, hM⟩
theorem c_law24_CacheKnown (w : World) (r : Bool) (hF : Va = some r) :
  CallsR Tryz.prog 4 [] w (fun v w' => v = vB r ∧ Mem w [] w' []) := by
 refine XJ Tryz.func4 rfl Tryz.ntmps4 rfl ?_
 have hM := Mem.init w
 unfold Va at hF
 refine sr fun Q1 hQ1 => ?_
 refine va rfl rfl (nt hQ1 ?_)
 refine sr fun Q2 hQ2 => ?_
 refine va rfl rfl (nt hQ2 ?_)
 refine KC.seqH fun Q3 hQ3 => ?_
 refine sr fun Q4 hQ4 => ?_
 refine va rfl rfl (nt hQ4 (KC.block ?_))
 refine KC.loop (fun k215 a w213 => ∃ (kv211 nv212 : Int), Kn 146 [(1, vI kv211), (2, vI nv212)] a ∧ Mem w [] w213 [] ∧ Yr k215 kv211 nv212 = some r) ?_ ?_
 ·exact fun a ha => ⟨fuel0, 1, 0, ha.less (Xa rfl (Xa rfl Xj)), hM, hF⟩
 rintro k215 a w213 ⟨kv211, nv212, ha, hM, hF⟩
 refine KC.app ha ?_
 clear ha
 cases k215 with
 | zero => exact (Yl hF).elim
 | succ k215 =>
 have hF : JX (Yr k215) kv211 nv212 = some r := hF
 unfold JX at hF
 refine KC.seqH fun Q216 hQ216 => ?_
 refine sr fun Q217 hQ217 => ?_
 refine vm rfl rfl (RL.val (O.lss rfl rfl) rfl (nt hQ217 ?_))
 refine KC.cond rfl (fun hc => ?_) (fun hc => ?_)
 ·rw [if_pos hc] at hF
  refine KC.skip (KQ.thn hQ216 ?_)
  refine KC.seqH fun Q218 hQ218 => ?_
  refine KC.block ?_
  refine sr fun Q219 hQ219 => ?_
  refine va rfl rfl (nt hQ219 ?_)
  refine sr fun Q220 hQ220 => ?_
  refine va rfl rfl (nt hQ220 ?_)
  refine KC.seqH fun Q221 hQ221 => ?_
  refine sr fun Q222 hQ222 => ?_
  refine va rfl rfl (nt hQ222 (KC.block ?_))
  refine KC.loop (fun k273 a w271 => ∃ (A266 : Option Addr) (c267 : Nat) (kv264 : Int) (lv268 : List XF) (tick269 i270 : Int), Kn 146 [(1, vI kv264), (2, vI nv212), (3, .slice A266 (lv268).length c267), (4, v64 tick269), (5, vI i270)] a ∧ Mem w [] w271 [.row A266 c267 46 43 (lv268).length ((lv268).flatMap Zw)] ∧ Z8 nv212 (Yr k215) k273 kv264 lv268 tick269 i270 = some r) ?_ ?_
  ·replace hM := hM.nilrow 46 43
   exact fun a ha => ⟨fuel0, none, 0, kv211, ([]), 0, 0, ha.less (Xa rfl (Xa rfl (Xa rfl (Xa rfl (Xa rfl Xj))))), hM, hF⟩
  rintro k273 a w271 ⟨A266, c267, kv264, lv268, tick269, i270, ha, hM, hF⟩
  refine KC.app ha ?_
  clear ha
  cases k273 with
  | zero => exact (Yl hF).elim
  | succ k273 =>
  have hF : JK (Z8 nv212 (Yr k215) k273) nv212 (Yr k215) kv264 lv268 tick269 i270 = some r := hF
  unfold JK at hF
  refine KC.seqH fun Q274 hQ274 => ?_
  refine sr fun Q275 hQ275 => ?_
  refine vm rfl rfl (RL.val (O.lss rfl rfl) rfl (nt hQ275 ?_))
  refine KC.cond rfl (fun hc => ?_) (fun hc => ?_)
  ·rw [if_pos hc] at hF
   refine KC.skip (KQ.thn hQ274 ?_)
   refine KC.seqH fun Q276 hQ276 => ?_
   refine KC.block ?_
   refine sr fun Q277 hQ277 => ?_
   refine vm rfl rfl (vm rfl rfl (RL.val (O.rem rfl rfl (by decide)) rfl ?_))
   refine RL.val (O.conv un3 Tryz.underlying22 rfl) rfl (RL.val (O.add rfl rfl) rfl (va rfl rfl (nt hQ277 ?_)))
   refine sr fun Q278 hQ278 => ?_
   refine vm rfl rfl (vm rfl rfl (vm rfl rfl ?_))
   refine Xx hF fun y279 hx280 hF => ?_
   refine RL.call Tryz.func11 bd11 rfl rfl (Vj _ kv264 (IntKind.u64.wrap (tick269 + (IntKind.u64.wrap (Int.tmod kv264 4)))) _ hx280) fun v w281 hv => ?_
   obtain ⟨rfl, hN282⟩ := hv
   replace hM := hM.call0 hN282
   refine RL.eff (E.bsl (enc := Zw) (xs := ([y279] : List XF)) hM sl25 ze46 rfl rfl rfl (fun _ => rfl) rfl (by kernel_rfl) rfl) rfl fun v w283 hv => ?_
   clear hM
   obtain ⟨A284, rfl, hM, hf⟩ := hv
   refine XZ hF fun hq289 hF => ?_
   refine RL.eff (E.app (enc := Zw) (xs := lv268) (ys := ([y279] : List XF)) (j := 0) hM rfl sl25 ze46 rfl rfl rfl rfl rfl (hM.rd (i := 1) rfl) (fun _ => One.all rfl) (of_decide_eq_true hq289)) rfl fun v w288 hv => ?_
   clear hM
   obtain ⟨A286, c287, rfl, hM, hf⟩ := hv
   refine va rfl rfl (nt hQ278 (KC.region (vm rfl rfl (RL.val (O.mul rfl rfl) rfl (vm rfl rfl (RL.val (O.mul rfl rfl) rfl ?_))))))
   refine RL.val (O.add rfl rfl) rfl (RL.val (O.add rfl rfl) rfl (RL.val (O.rem rfl rfl (by decide)) rfl ?_))
   refine va rfl rfl (RL.nil (KQ.blk_n (KQ.thn hQ276 (KC.region (vm rfl rfl (RL.val (O.add rfl rfl) rfl ?_))))))
   refine va rfl rfl (RL.nil (KQ.Xy ?_))
   replace hM := hM.pick [0] rfl (by decide)
   exact fun a ha => ⟨k273, Nat.lt_succ_self k273, A286, c287, (Int.tmod (IntKind.i64.wrap ((IntKind.i64.wrap ((IntKind.i64.wrap (kv264 * 31)) + (IntKind.i64.wrap (7 * i270)))) + 11)) 100003), (lv268 ++ ([y279] : List XF)), (IntKind.u64.wrap (tick269 + (IntKind.u64.wrap (Int.tmod kv264 4)))), (IntKind.i64.wrap (i270 + 1)), ha.less (Xa rfl (Xa rfl (Xa rfl (Xa rfl (Xa rfl Xj))))), hM, hF⟩
  rw [if_neg (Xv hc)] at hF
  refine KC.exit (KQ.thx hQ274 (KQ.then_x (KQ.blk_x (KQ.thn hQ221 ?_))))
  refine sr fun Q291 hQ291 => ?_
  refine vm rfl rfl (RL.val (O.rem rfl rfl (by decide)) rfl ?_)
  refine RL.val (O.add rfl rfl) rfl (vm rfl rfl (RL.val (O.rem rfl rfl (by decide)) rfl ?_))
  refine RL.val (O.add rfl rfl) rfl (RL.val (O.conv un3 Tryz.underlying22 rfl) rfl (vm rfl rfl (RL.val (O.mul rfl rfl) rfl (RL.val (O.rem rfl rfl (by decide)) rfl ?_))))
  refine RL.val (O.add rfl rfl) rfl (RL.val (O.conv un3 Tryz.underlying22 rfl) rfl (vm rfl rfl (RL.val (O.rem rfl rfl (by decide)) rfl ?_)))
  refine RL.val (O.add rfl rfl) rfl (RL.val (O.conv un3 Tryz.underlying22 rfl) rfl (vm rfl rfl (RL.val (O.mul rfl rfl) rfl (RL.val (O.rem rfl rfl (by decide)) rfl ?_))))
  refine RL.val (O.add rfl rfl) rfl (RL.val (O.conv un3 Tryz.underlying22 rfl) rfl (RL.val (O.bld (cs := [vI (IntKind.i64.wrap (1 + (Int.tmod nv212 6))), v64 (IntKind.u64.wrap (IntKind.i64.wrap (1 + (Int.tmod nv212 9)))), v64 (IntKind.u64.wrap (IntKind.i64.wrap (1 + (Int.tmod (IntKind.i64.wrap (nv212 * 3)) 40)))), v64 (IntKind.u64.wrap (IntKind.i64.wrap (1 + (Int.tmod nv212 7)))), v64 (IntKind.u64.wrap (IntKind.i64.wrap (1 + (Int.tmod (IntKind.i64.wrap (nv212 * 37)) 2000))))]) bt24 rfl (by kernel_rfl)) rfl ?_))
  refine RL.eff (E.alloc hM ze24) rfl fun v w293 hv => ?_
  clear hM
  obtain ⟨g292, rfl, hM, hf⟩ := hv
  refine RL.effs (E.stB (j := 1) (off := 0) (vs := [vI (IntKind.i64.wrap (1 + (Int.tmod nv212 6))), v64 (IntKind.u64.wrap (IntKind.i64.wrap (1 + (Int.tmod nv212 9)))), v64 (IntKind.u64.wrap (IntKind.i64.wrap (1 + (Int.tmod (IntKind.i64.wrap (nv212 * 3)) 40)))), v64 (IntKind.u64.wrap (IntKind.i64.wrap (1 + (Int.tmod nv212 7)))), v64 (IntKind.u64.wrap (IntKind.i64.wrap (1 + (Int.tmod (IntKind.i64.wrap (nv212 * 37)) 2000))))]) (cs' := [vI (IntKind.i64.wrap (1 + (Int.tmod nv212 6))), v64 (IntKind.u64.wrap (IntKind.i64.wrap (1 + (Int.tmod nv212 9)))), v64 (IntKind.u64.wrap (IntKind.i64.wrap (1 + (Int.tmod (IntKind.i64.wrap (nv212 * 3)) 40)))), v64 (IntKind.u64.wrap (IntKind.i64.wrap (1 + (Int.tmod nv212 7)))), v64 (IntKind.u64.wrap (IntKind.i64.wrap (1 + (Int.tmod (IntKind.i64.wrap (nv212 * 37)) 2000))))]) hM rfl sz24 rfl (XX [] rfl) rfl rfl (One.all rfl) rfl rfl) fun w295 hM1 => ?_
  clear hM
  have hM := hM1
  clear hM1
  refine nt hQ291 ?_
  refine KC.cut (fun a w316 => ∃ (t315 : Bool), Kn 146 [(1, vI kv264), (2, vI nv212), (80, vB t315)] a ∧ Mem w [] w316 [] ∧ ZW nv212 (Yr k215) kv264 t315 = some r) ?_ ?_
  ·replace hM := hM.drewN 1
   refine KC.draw [] [] [5, 10, 19] [0, 1, 2, 4, 6, 7, 9, 11, 12, 13, 15, 16, 17, 18, 20, 21] (.ofList [0, 1, 2, 3, 4, 5, 6, 7, 8, 9, 10, 11, 12, 13, 14, 15, 16, 17, 18, 19, 20, 21]) moP (by kernel_rfl) ?_
   refine RD.p rfl rfl rfl rfl (fun w' => O.move rfl) ?_
   refine RD.p rfl rfl rfl rfl (fun w' => O.rem rfl rfl (by decide)) ?_
   refine RD.p rfl rfl rfl rfl (fun w' => O.conv un3 Tryz.underlying22 rfl) ?_
   refine RD.q rfl rfl rfl rfl (fun w' hf => O.loadN (cs := [vI (IntKind.i64.wrap (1 + (Int.tmod nv212 6))), v64 (IntKind.u64.wrap (IntKind.i64.wrap (1 + (Int.tmod nv212 9)))), v64 (IntKind.u64.wrap (IntKind.i64.wrap (1 + (Int.tmod (IntKind.i64.wrap (nv212 * 3)) 40)))), v64 (IntKind.u64.wrap (IntKind.i64.wrap (1 + (Int.tmod nv212 7)))), v64 (IntKind.u64.wrap (IntKind.i64.wrap (1 + (Int.tmod (IntKind.i64.wrap (nv212 * 37)) 2000))))]) ag24 rfl (Cs.addsN [] ((hM.bx (i := 1) rfl).fut hf) rfl)) ?_
   refine RD.p rfl rfl rfl rfl (fun w' => O.move rfl) ?_
   refine Xx hF fun y296 hx297 hF => ?_
   refine RD.mcall rfl rfl trivial Tryz.func3 bd3 rfl rfl (VT _ (IntKind.u64.wrap (Int.tmod nv212 3)) (Xg.mk (IntKind.i64.wrap (1 + (Int.tmod nv212 6))) (IntKind.u64.wrap (IntKind.i64.wrap (1 + (Int.tmod nv212 9)))) (IntKind.u64.wrap (IntKind.i64.wrap (1 + (Int.tmod (IntKind.i64.wrap (nv212 * 3)) 40)))) (IntKind.u64.wrap (IntKind.i64.wrap (1 + (Int.tmod nv212 7)))) (IntKind.u64.wrap (IntKind.i64.wrap (1 + (Int.tmod (IntKind.i64.wrap (nv212 * 37)) 2000))))) _ _ lv268 (hM.rd (i := 0) rfl) _ hx297) fun v w298 hv => ?_
   obtain ⟨rfl, hN299⟩ := hv
   refine ⟨fun _ => hN299.fut, ?_⟩
   replace hM := hM.call0 hN299
   refine RD.p rfl rfl rfl rfl (fun w' => O.not rfl) ?_
   refine RD.p rfl rfl rfl rfl (fun w' => O.move rfl) ?_
   refine RD.bcase (t := 66) rfl (fun hc => ?_) (fun hc => ?_)
   ·rw [if_pos hc] at hF
    refine RD.gskip rfl rfl rfl rfl rfl (RD.gskip rfl rfl rfl rfl rfl (RD.gskip rfl rfl rfl rfl rfl (RD.gskip rfl rfl rfl rfl rfl ?_)))
    refine RD.p rfl rfl rfl rfl (fun w' => O.pickt rfl rfl) ?_
    refine RD.p rfl rfl rfl rfl (fun w' => O.move rfl) (RD.gskip rfl rfl rfl rfl rfl (RD.gskip rfl rfl rfl rfl rfl (RD.gskip rfl rfl rfl rfl rfl (RD.gskip rfl rfl rfl rfl rfl (RD.gskip rfl rfl rfl rfl rfl (RD.gskip rfl rfl rfl rfl rfl ?_))))))
    refine RD.gskip rfl rfl rfl rfl rfl ?_
    refine RD.p rfl rfl rfl rfl (fun w' => O.pickt rfl rfl) (RD.nil (KQ.Xy ?_))
    replace hM := hM.pick [] rfl (by decide)
    exact fun a ha => ⟨true, ha.less (Xa rfl (Xa rfl (Xa rfl Xj))), hM, hF⟩
   rw [if_neg (Xv hc)] at hF
   refine RD.gq rfl rfl rfl rfl rfl rfl (fun w' hf => O.loadN (cs := [vI (IntKind.i64.wrap (1 + (Int.tmod nv212 6))), v64 (IntKind.u64.wrap (IntKind.i64.wrap (1 + (Int.tmod nv212 9)))), v64 (IntKind.u64.wrap (IntKind.i64.wrap (1 + (Int.tmod (IntKind.i64.wrap (nv212 * 3)) 40)))), v64 (IntKind.u64.wrap (IntKind.i64.wrap (1 + (Int.tmod nv212 7)))), v64 (IntKind.u64.wrap (IntKind.i64.wrap (1 + (Int.tmod (IntKind.i64.wrap (nv212 * 37)) 2000))))]) ag24 rfl (Cs.addsN [] ((hM.bx (i := 1) rfl).fut hf) rfl)) ?_
   refine RD.gp rfl rfl rfl rfl rfl rfl (fun w' => O.move rfl) ?_
   refine Xx hF fun y300 hx301 hF => ?_
   refine RD.mcall rfl rfl ⟨rfl, rfl⟩ Tryz.func12 bd12 rfl rfl (VM _ (Xg.mk (IntKind.i64.wrap (1 + (Int.tmod nv212 6))) (IntKind.u64.wrap (IntKind.i64.wrap (1 + (Int.tmod nv212 9)))) (IntKind.u64.wrap (IntKind.i64.wrap (1 + (Int.tmod (IntKind.i64.wrap (nv212 * 3)) 40)))) (IntKind.u64.wrap (IntKind.i64.wrap (1 + (Int.tmod nv212 7)))) (IntKind.u64.wrap (IntKind.i64.wrap (1 + (Int.tmod (IntKind.i64.wrap (nv212 * 37)) 2000))))) _ _ lv268 (hM.rd (i := 0) rfl) _ hx301) fun v w302 hv => ?_
   obtain ⟨rfl, hN303⟩ := hv
   refine ⟨fun _ => hN303.fut, ?_⟩
   replace hM := hM.call0 hN303
   refine RD.gp rfl rfl rfl rfl rfl rfl (fun w' => O.not rfl) ?_
   refine RD.p rfl rfl rfl rfl (fun w' => O.pickf rfl rfl) ?_
   refine RD.p rfl rfl rfl rfl (fun w' => O.move rfl) ?_
   refine RD.bcase (t := 72) rfl (fun hc => ?_) (fun hc => ?_)
   ·rw [if_pos hc] at hF
    refine RD.gskip rfl rfl rfl rfl rfl (RD.gskip rfl rfl rfl rfl rfl (RD.gskip rfl rfl rfl rfl rfl (RD.gskip rfl rfl rfl rfl rfl (RD.gskip rfl rfl rfl rfl rfl (RD.gskip rfl rfl rfl rfl rfl (RD.gskip rfl rfl rfl rfl rfl ?_))))))
    refine RD.p rfl rfl rfl rfl (fun w' => O.pickt rfl rfl) (RD.nil (KQ.Xy ?_))
    replace hM := hM.pick [] rfl (by decide)
    exact fun a ha => ⟨true, ha.less (Xa rfl (Xa rfl (Xa rfl Xj))), hM, hF⟩
   rw [if_neg (Xv hc)] at hF
   refine RD.gq rfl rfl rfl rfl rfl rfl (fun w' hf => O.loadN (cs := [vI (IntKind.i64.wrap (1 + (Int.tmod nv212 6))), v64 (IntKind.u64.wrap (IntKind.i64.wrap (1 + (Int.tmod nv212 9)))), v64 (IntKind.u64.wrap (IntKind.i64.wrap (1 + (Int.tmod (IntKind.i64.wrap (nv212 * 3)) 40)))), v64 (IntKind.u64.wrap (IntKind.i64.wrap (1 + (Int.tmod nv212 7)))), v64 (IntKind.u64.wrap (IntKind.i64.wrap (1 + (Int.tmod (IntKind.i64.wrap (nv212 * 37)) 2000))))]) ag24 rfl (Cs.addsN [] ((hM.bx (i := 1) rfl).fut hf) rfl)) ?_
   refine RD.gp rfl rfl rfl rfl rfl rfl (fun w' => O.move rfl) ?_
   refine Xx hF fun cut304 hy305 hF => ?_
   refine cutNE A266 c267 (Int.toNat 0) 43 fun A306 c307 eA309 ec310 => ?_
   have hr308 := Rd.cutT (enc := Zw) (s := 43) (fun _ => rfl) (hM.rd (i := 0) rfl) hy305 (m := c267) (by have := (hM.rd (i := 0) rfl).cap; have := (gcut_some hy305).2.2.1; omega) (Nat.le_refl _)
   rw [← eA309, ← ec310] at hr308
   refine RD.gp (v := .slice A306 (cut304).length c307) rfl rfl rfl rfl rfl rfl (fun w' => (by rw [eA309, ec310]; exact O.cuthT sl25 (hM.rd (i := 0) rfl) hy305 rfl rfl)) ?_
   refine RD.gp rfl rfl rfl rfl rfl rfl (fun w' => O.move rfl) ?_
   refine RD.gp rfl rfl rfl rfl rfl rfl (fun w' => O.conv un3 Tryz.underlying5 rfl) ?_
   refine Xx hF fun y311 hx312 hF => ?_
   refine RD.mcall rfl rfl ⟨rfl, rfl⟩ Tryz.func13 bd13 rfl rfl (VU _ (Xg.mk (IntKind.i64.wrap (1 + (Int.tmod nv212 6))) (IntKind.u64.wrap (IntKind.i64.wrap (1 + (Int.tmod nv212 9)))) (IntKind.u64.wrap (IntKind.i64.wrap (1 + (Int.tmod (IntKind.i64.wrap (nv212 * 3)) 40)))) (IntKind.u64.wrap (IntKind.i64.wrap (1 + (Int.tmod nv212 7)))) (IntKind.u64.wrap (IntKind.i64.wrap (1 + (Int.tmod (IntKind.i64.wrap (nv212 * 37)) 2000))))) _ _ cut304 hr308 (IntKind.u8.wrap nv212) _ hx312) fun v w313 hv => ?_
   obtain ⟨rfl, hN314⟩ := hv
   refine ⟨fun _ => hN314.fut, ?_⟩
   have hr308 := hr308.fut hN314.fut
   replace hM := hM.call0 hN314
   refine RD.gp rfl rfl rfl rfl rfl rfl (fun w' => O.not rfl) ?_
   refine RD.p rfl rfl rfl rfl (fun w' => O.pickf rfl rfl) (RD.nil (KQ.Xy ?_))
   replace hM := hM.pick [] rfl (by decide)
   exact fun a ha => ⟨(!y311), ha.less (Xa rfl (Xa rfl (Xa rfl Xj))), hM, hF⟩
  rintro a w316 ⟨t315, ha, hM, hF⟩
  refine KC.app ha ?_
  clear ha
  unfold ZW at hF
  refine KC.cond rfl (fun hc => ?_) (fun hc => ?_)
  ·rw [if_pos hc] at hF
   refine sr fun Q317 hQ317 => ?_
   refine va rfl rfl (nt hQ317 (KC.ret (KQ.blk_r (KQ.thr hQ218 (KQ.then_r (KQ.blk_r ?_))))))
   refine KQ.thr hQ3 ?_
   have hE := Option.some.inj hF
   clear hF
   subst hE
   refine KQ.rets Tryz.results4 (RVs.cons (RV.tm rfl) RVs.nil) ?_
   exact ⟨_, rfl, rfl, hM⟩
  rw [if_neg (Xv hc)] at hF
  refine KC.skip (KQ.blk_n (KQ.thn hQ218 (KC.region (vm rfl rfl (RL.val (O.add rfl rfl) rfl (va rfl rfl ?_))))))
  refine RL.nil (KQ.Xy ?_)
  exact fun a ha => ⟨k215, Nat.lt_succ_self k215, kv264, (IntKind.i64.wrap (nv212 + 1)), ha.less (Xa rfl (Xa rfl Xj)), hM, hF⟩
 rw [if_neg (Xv hc)] at hF
 refine KC.exit (KQ.thx hQ216 (KQ.then_x (KQ.blk_x (KQ.thn hQ3 ?_))))
 refine sr fun Q318 hQ318 => ?_
 refine va rfl rfl (nt hQ318 ?_)
 refine sr fun Q319 hQ319 => ?_
 refine RL.val (O.bld (cs := [vI 0, v64 0, v64 0, v64 0, v64 0]) bt24 rfl (by kernel_rfl)) rfl ?_
 refine RL.val (O.bld (cs := [vI 1, v64 1, v64 1, v64 1, v64 0]) bt24 rfl (by kernel_rfl)) rfl ?_
 refine RL.val (O.bld (cs := [vI 4097, v64 1, v64 1, v64 1, v64 1]) bt24 rfl (by kernel_rfl)) rfl ?_
 refine vm rfl rfl (vm rfl rfl (vm rfl rfl (vm rfl rfl (RL.val (O.bld (cs := [vI 4096, v64 18446744073709551615, v64 18446744073709551615, v64 18446744073709551615, v64 18446744073709551615]) bt24 rfl (by kernel_rfl)) rfl ?_))))
 refine RL.val (O.bld (cs := [vI (-9223372036854775808), v64 1, v64 1, v64 1, v64 1]) bt24 rfl (by kernel_rfl)) rfl ?_
 refine vm rfl rfl (vm rfl rfl (RL.val (O.bld (cs := [vI 1, v64 2, v64 18446744073709551615, v64 9, v64 18446744073709551615]) bt24 rfl (by kernel_rfl)) rfl ?_))
 refine RL.eff (E.bsl (enc := KP) (xs := ([(Xg.mk 0 0 0 0 0), (Xg.mk 1 1 1 1 0), (Xg.mk 4097 1 1 1 1), (Xg.mk 4096 18446744073709551615 18446744073709551615 18446744073709551615 18446744073709551615), (Xg.mk (-9223372036854775808) 1 1 1 1), (Xg.mk 1 2 18446744073709551615 9 18446744073709551615)] : List Xg)) hM sl52 ze24 rfl rfl rfl (fun _ => rfl) rfl (by kernel_rfl) rfl) rfl fun v w320 hv => ?_
 clear hM
 obtain ⟨A321, rfl, hM, hf⟩ := hv
 refine va rfl rfl (nt hQ319 ?_)
 refine KC.seqH fun Q323 hQ323 => ?_
 refine sr fun Q324 hQ324 => ?_
 refine va rfl rfl (nt hQ324 (KC.block ?_))
 refine KC.loop (fun k427 a w425 => ∃ (i424 : Int), Kn 146 [(7, v64 18446744073709551615), (8, .slice A321 (([(Xg.mk 0 0 0 0 0), (Xg.mk 1 1 1 1 0), (Xg.mk 4097 1 1 1 1), (Xg.mk 4096 18446744073709551615 18446744073709551615 18446744073709551615 18446744073709551615), (Xg.mk (-9223372036854775808) 1 1 1 1), (Xg.mk 1 2 18446744073709551615 9 18446744073709551615)] : List Xg)).length 6), (9, vI i424)] a ∧ Mem w [] w425 [.row A321 6 24 5 (([(Xg.mk 0 0 0 0 0), (Xg.mk 1 1 1 1 0), (Xg.mk 4097 1 1 1 1), (Xg.mk 4096 18446744073709551615 18446744073709551615 18446744073709551615 18446744073709551615), (Xg.mk (-9223372036854775808) 1 1 1 1), (Xg.mk 1 2 18446744073709551615 9 18446744073709551615)] : List Xg)).length ((([(Xg.mk 0 0 0 0 0), (Xg.mk 1 1 1 1 0), (Xg.mk 4097 1 1 1 1), (Xg.mk 4096 18446744073709551615 18446744073709551615 18446744073709551615 18446744073709551615), (Xg.mk (-9223372036854775808) 1 1 1 1), (Xg.mk 1 2 18446744073709551615 9 18446744073709551615)] : List Xg)).flatMap KP)] ∧ Zq k427 i424 = some r) ?_ ?_
 ·exact fun a ha => ⟨fuel0, 0, ha.less (Xa rfl (Xa rfl (Xa rfl Xj))), hM, hF⟩
 rintro k427 a w425 ⟨i424, ha, hM, hF⟩
 refine KC.app ha ?_
 clear ha
 cases k427 with
 | zero => exact (Yl hF).elim
 | succ k427 =>
 have hF : JV (Zq k427) i424 = some r := hF
 unfold JV at hF
 refine KC.seqH fun Q428 hQ428 => ?_
 refine sr fun Q429 hQ429 => ?_
 refine vm rfl rfl (vm rfl rfl (RL.val (O.len sl52 rfl) rfl (RL.val (O.lss rfl rfl) rfl (nt hQ429 ?_))))
 refine KC.cond rfl (fun hc => ?_) (fun hc => ?_)
 ·rw [if_pos hc] at hF
  refine KC.skip (KQ.thn hQ428 ?_)
  refine KC.seqH fun Q430 hQ430 => ?_
  refine KC.block ?_
  refine sr fun Q431 hQ431 => ?_
  refine vm rfl rfl (RL.val (O.sub rfl rfl) rfl ?_)
  refine Xx hF fun y432 hx433 hF => ?_
  refine RL.call Tryz.func11 bd11 rfl rfl (Vj _ 10 (IntKind.u64.wrap (18446744073709551615 - 1)) _ hx433) fun v w434 hv => ?_
  obtain ⟨rfl, hN435⟩ := hv
  replace hM := hM.call0 hN435
  refine vm rfl rfl (RL.val (O.sub rfl rfl) rfl ?_)
  refine Xx hF fun y436 hx437 hF => ?_
  refine RL.call Tryz.func11 bd11 rfl rfl (Vj _ 11 (IntKind.u64.wrap (18446744073709551615 - 1)) _ hx437) fun v w438 hv => ?_
  obtain ⟨rfl, hN439⟩ := hv
  replace hM := hM.call0 hN439
  refine vm rfl rfl (RL.val (O.bld (cs := (vI 5 :: vB false :: (a16 (List.replicate 16 0) ++ (vB false :: (a16 (List.replicate 16 0) ++ [v8 0, v16 0, v16 0, vI 0, v8 0, vB false, v8 0, v64 18446744073709551615]))))) bt46 rfl (by kernel_rfl)) rfl ?_)
  refine vm rfl rfl ?_
  refine Xx hF fun y440 hx441 hF => ?_
  refine RL.call Tryz.func11 bd11 rfl rfl (Vj _ 12 18446744073709551615 _ hx441) fun v w442 hv => ?_
  obtain ⟨rfl, hN443⟩ := hv
  replace hM := hM.call0 hN443
  refine Xx hF fun y444 hx445 hF => ?_
  refine RL.call Tryz.func11 bd11 rfl rfl (Vj _ 10 3 _ hx445) fun v w446 hv => ?_
  obtain ⟨rfl, hN447⟩ := hv
  replace hM := hM.call0 hN447
  refine vm rfl rfl (RL.val (O.bld (cs := (vI 5 :: vB false :: (a16 (List.replicate 16 0) ++ (vB false :: (a16 (List.replicate 16 0) ++ [v8 0, v16 0, v16 0, vI 0, v8 0, vB false, v8 0, v64 18446744073709551615]))))) bt46 rfl (by kernel_rfl)) rfl ?_)
  refine RL.eff (E.bsl (enc := Zw) (xs := ([y432, y436, (XF.mk 5 (XC.mk (Xe.mk (Xd.mk false (List.replicate 16 0)) (Xd.mk false (List.replicate 16 0)) 0 0 0) 0 0 false) 0 18446744073709551615), y440, y444, (XF.mk 5 (XC.mk (Xe.mk (Xd.mk false (List.replicate 16 0)) (Xd.mk false (List.replicate 16 0)) 0 0 0) 0 0 false) 0 18446744073709551615)] : List XF)) hM sl25 ze46 rfl rfl rfl (fun _ => rfl) rfl (by kernel_rfl) rfl) rfl fun v w448 hv => ?_
  clear hM
  obtain ⟨A449, rfl, hM, hf⟩ := hv
  refine va rfl rfl (nt hQ431 ?_)
  refine KC.cut (fun a w474 => ∃ (t473 : Bool), Kn 146 [(7, v64 18446744073709551615), (8, .slice A321 (([(Xg.mk 0 0 0 0 0), (Xg.mk 1 1 1 1 0), (Xg.mk 4097 1 1 1 1), (Xg.mk 4096 18446744073709551615 18446744073709551615 18446744073709551615 18446744073709551615), (Xg.mk (-9223372036854775808) 1 1 1 1), (Xg.mk 1 2 18446744073709551615 9 18446744073709551615)] : List Xg)).length 6), (9, vI i424), (140, vB t473)] a ∧ Mem w [] w474 [.row A321 6 24 5 (([(Xg.mk 0 0 0 0 0), (Xg.mk 1 1 1 1 0), (Xg.mk 4097 1 1 1 1), (Xg.mk 4096 18446744073709551615 18446744073709551615 18446744073709551615 18446744073709551615), (Xg.mk (-9223372036854775808) 1 1 1 1), (Xg.mk 1 2 18446744073709551615 9 18446744073709551615)] : List Xg)).length ((([(Xg.mk 0 0 0 0 0), (Xg.mk 1 1 1 1 0), (Xg.mk 4097 1 1 1 1), (Xg.mk 4096 18446744073709551615 18446744073709551615 18446744073709551615 18446744073709551615), (Xg.mk (-9223372036854775808) 1 1 1 1), (Xg.mk 1 2 18446744073709551615 9 18446744073709551615)] : List Xg)).flatMap KP)] ∧ ZT i424 (Zq k427) t473 = some r) ?_ ?_
  ·refine KC.region (vm rfl rfl (RL.val (O.sub rfl rfl) rfl (vm rfl rfl (vm rfl rfl ?_))))
   refine Xx hF fun xv453 hx452 hF => ?_
   have hA451 := Rd.atN (f := KP) (s := 5) (fun _ => rfl) (by decide) (hM.rd (i := 0) rfl) hx452
   refine RL.val (O.idxA sl52 (hA451) rfl rfl) rfl (RL.val (O.loadN (cs := (xv453.cs)) ag24 rfl (hA451).cells) rfl (vm rfl rfl ?_))
   refine Xx hF fun y454 hx455 hF => ?_
   refine RL.call Tryz.func3 bd3 rfl rfl (VT _ (IntKind.u64.wrap (18446744073709551615 - 2)) xv453 _ _ ([y432, y436, (XF.mk 5 (XC.mk (Xe.mk (Xd.mk false (List.replicate 16 0)) (Xd.mk false (List.replicate 16 0)) 0 0 0) 0 0 false) 0 18446744073709551615), y440, y444, (XF.mk 5 (XC.mk (Xe.mk (Xd.mk false (List.replicate 16 0)) (Xd.mk false (List.replicate 16 0)) 0 0 0) 0 0 false) 0 18446744073709551615)] : List XF) (hM.rd (i := 1) rfl) _ hx455) fun v w456 hv => ?_
   obtain ⟨rfl, hN457⟩ := hv
   replace hM := hM.call0 hN457
   refine RL.val (O.not rfl) rfl (vm rfl rfl ?_)
   refine RL.bcase (t := 123) rfl (fun hc => ?_) (fun hc => ?_)
   ·rw [if_pos hc] at hF
    refine RL.gskip rfl rfl rfl rfl (RL.gskip rfl rfl rfl rfl (RL.gskip rfl rfl rfl rfl (RL.gskip rfl rfl rfl rfl (RL.gskip rfl rfl rfl rfl (RL.gskip rfl rfl rfl rfl (RL.gskip rfl rfl rfl rfl ?_))))))
    refine RL.val (O.pickt rfl rfl) rfl (vm rfl rfl (RL.gskip rfl rfl rfl rfl (RL.gskip rfl rfl rfl rfl (RL.gskip rfl rfl rfl rfl (RL.gskip rfl rfl rfl rfl (RL.gskip rfl rfl rfl rfl ?_))))))
    refine RL.gskip rfl rfl rfl rfl (RL.gskip rfl rfl rfl rfl (RL.val (O.pickt rfl rfl) rfl (RL.nil (KQ.Xy ?_))))
    replace hM := hM.pick [0] rfl (by decide)
    exact fun a ha => ⟨true, ha.less (Xa rfl (Xa rfl (Xa rfl (Xa rfl Xj)))), hM, hF⟩
   rw [if_neg (Xv hc)] at hF
   refine RL.gval rfl rfl (O.move rfl) rfl (RL.gval rfl rfl (O.move rfl) rfl ?_)
   refine Xx hF fun xv460 hx459 hF => ?_
   have hA458 := Rd.atN (f := KP) (s := 5) (fun _ => rfl) (by decide) (hM.rd (i := 0) rfl) hx459
   refine RL.gval rfl rfl (O.idxA sl52 (hA458) rfl rfl) rfl (RL.gval rfl rfl (O.loadN (cs := (xv460.cs)) ag24 rfl (hA458).cells) rfl (RL.gval rfl rfl (O.move rfl) rfl ?_))
   refine Xx hF fun y461 hx462 hF => ?_
   refine RL.gcall rfl rfl Tryz.func12 bd12 rfl rfl (VM _ xv460 _ _ ([y432, y436, (XF.mk 5 (XC.mk (Xe.mk (Xd.mk false (List.replicate 16 0)) (Xd.mk false (List.replicate 16 0)) 0 0 0) 0 0 false) 0 18446744073709551615), y440, y444, (XF.mk 5 (XC.mk (Xe.mk (Xd.mk false (List.replicate 16 0)) (Xd.mk false (List.replicate 16 0)) 0 0 0) 0 0 false) 0 18446744073709551615)] : List XF) (hM.rd (i := 1) rfl) _ hx462) fun v w463 hv => ?_
   obtain ⟨rfl, hN464⟩ := hv
   replace hM := hM.call0 hN464
   refine RL.gval rfl rfl (O.not rfl) rfl (RL.val (O.pickf rfl rfl) rfl (vm rfl rfl ?_))
   refine RL.bcase (t := 132) rfl (fun hc => ?_) (fun hc => ?_)
   ·rw [if_pos hc] at hF
    refine RL.gskip rfl rfl rfl rfl (RL.gskip rfl rfl rfl rfl (RL.gskip rfl rfl rfl rfl (RL.gskip rfl rfl rfl rfl (RL.gskip rfl rfl rfl rfl (RL.gskip rfl rfl rfl rfl (RL.gskip rfl rfl rfl rfl ?_))))))
    refine RL.val (O.pickt rfl rfl) rfl (RL.nil (KQ.Xy ?_))
    replace hM := hM.pick [0] rfl (by decide)
    exact fun a ha => ⟨true, ha.less (Xa rfl (Xa rfl (Xa rfl (Xa rfl Xj)))), hM, hF⟩
   rw [if_neg (Xv hc)] at hF
   refine RL.gval rfl rfl (O.move rfl) rfl (RL.gval rfl rfl (O.move rfl) rfl ?_)
   refine Xx hF fun xv467 hx466 hF => ?_
   have hA465 := Rd.atN (f := KP) (s := 5) (fun _ => rfl) (by decide) (hM.rd (i := 0) rfl) hx466
   refine RL.gval rfl rfl (O.idxA sl52 (hA465) rfl rfl) rfl (RL.gval rfl rfl (O.loadN (cs := (xv467.cs)) ag24 rfl (hA465).cells) rfl (RL.gval rfl rfl (O.move rfl) rfl ?_))
   refine Xx hF fun y468 hx469 hF => ?_
   refine RL.gcall rfl rfl Tryz.func13 bd13 rfl rfl (VU _ xv467 _ _ ([y432, y436, (XF.mk 5 (XC.mk (Xe.mk (Xd.mk false (List.replicate 16 0)) (Xd.mk false (List.replicate 16 0)) 0 0 0) 0 0 false) 0 18446744073709551615), y440, y444, (XF.mk 5 (XC.mk (Xe.mk (Xd.mk false (List.replicate 16 0)) (Xd.mk false (List.replicate 16 0)) 0 0 0) 0 0 false) 0 18446744073709551615)] : List XF) (hM.rd (i := 1) rfl) 9 _ hx469) fun v w470 hv => ?_
   obtain ⟨rfl, hN471⟩ := hv
   replace hM := hM.call0 hN471
   refine RL.gval rfl rfl (O.not rfl) rfl (RL.val (O.pickf rfl rfl) rfl (RL.nil (KQ.Xy ?_)))
   replace hM := hM.pick [0] rfl (by decide)
   exact fun a ha => ⟨(!y468), ha.less (Xa rfl (Xa rfl (Xa rfl (Xa rfl Xj)))), hM, hF⟩
  rintro a w474 ⟨t473, ha, hM, hF⟩
  refine KC.app ha ?_
  clear ha
  unfold ZT at hF
  refine KC.cond rfl (fun hc => ?_) (fun hc => ?_)
  ·rw [if_pos hc] at hF
   refine sr fun Q475 hQ475 => ?_
   refine va rfl rfl (nt hQ475 (KC.ret (KQ.blk_r (KQ.thr hQ430 (KQ.then_r (KQ.blk_r ?_))))))
   refine KQ.thr hQ323 ?_
   have hE := Option.some.inj hF
   clear hF
   subst hE
   replace hM := hM.pick [] rfl (by decide)
   refine KQ.rets Tryz.results4 (RVs.cons (RV.tm rfl) RVs.nil) ?_
   exact ⟨_, rfl, rfl, hM⟩
  rw [if_neg (Xv hc)] at hF
  refine KC.skip (KQ.blk_n (KQ.thn hQ430 (KC.region (vm rfl rfl (RL.val (O.add rfl rfl) rfl (va rfl rfl ?_))))))
  refine RL.nil (KQ.Xy ?_)
  exact fun a ha => ⟨k427, Nat.lt_succ_self k427, (IntKind.i64.wrap (i424 + 1)), ha.less (Xa rfl (Xa rfl (Xa rfl Xj))), hM, hF⟩
 rw [if_neg (Xv hc)] at hF
 refine KC.exit (KQ.thx hQ428 (KQ.then_x (KQ.blk_x (KQ.thn hQ323 ?_))))
 refine KC.cut (fun a w489 => ∃ (t488 : Bool), Kn 146 [(0, vB t488)] a ∧ Mem w [] w489 [] ∧ KM t488 = some r) ?_ ?_
 ·refine KC.region ?_
  refine Xx hF fun y476 hx477 hF => ?_
  refine RL.call Tryz.func11 bd11 rfl rfl (Vj _ 1 1 _ hx477) fun v w478 hv => ?_
  obtain ⟨rfl, hN479⟩ := hv
  replace hM := hM.call0 hN479
  refine Xx hF fun y480 hx481 hF => ?_
  refine RL.call Tryz.func14 bd14 rfl rfl (XaM _ y476 _ hx481) fun v w482 hv => ?_
  obtain ⟨rfl, hN483⟩ := hv
  replace hM := hM.call0 hN483
  refine vm rfl rfl ?_
  refine RL.bcase (t := 143) rfl (fun hc => ?_) (fun hc => ?_)
  ·rw [if_pos hc] at hF
   refine Xx hF fun y484 hx485 hF => ?_
   refine RL.gcall rfl rfl Tryz.func5 bd5 rfl rfl (YR _ _ hx485) fun v w486 hv => ?_
   obtain ⟨rfl, hN487⟩ := hv
   replace hM := hM.call0 hN487
   refine RL.val (O.pickt rfl rfl) rfl (va rfl rfl (RL.nil (KQ.Xy ?_)))
   replace hM := hM.pick [] rfl (by decide)
   exact fun a ha => ⟨y484, ha.less (Xa rfl Xj), hM, hF⟩
  rw [if_neg (Xv hc)] at hF
  refine RL.gskip rfl rfl rfl rfl (RL.val (O.pickf rfl rfl) rfl (va rfl rfl (RL.nil (KQ.Xy ?_))))
  replace hM := hM.pick [] rfl (by decide)
  exact fun a ha => ⟨false, ha.less (Xa rfl Xj), hM, hF⟩
 rintro a w489 ⟨t488, ha, hM, hF⟩
 refine KC.app ha ?_
 clear ha
 unfold KM at hF
 refine KC.ret ?_
 have hE := Option.some.inj hF
 clear hF
 subst hE
 refine KQ.rets Tryz.results4 (RVs.cons (RV.tm rfl) RVs.nil) ?_
 exact ⟨_, rfl, rfl, hM⟩
end Go.Proofs.YtkpnocgfhipidaaGreat
