/- Printed by a program of this claim: each call returns what the plain function of its name gives. -/
import Derived.Test.YtkpnocgfhipidaaGreatW1
set_option linter.unusedVariables false
set_option maxRecDepth 100000
set_option maxHeartbeats 40000000
namespace Go.Proofs.YtkpnocgfhipidaaGreat
open Go Go.Ox Go.RowKit
theorem V4 (w : World) (av1 : Xd) (r : Bool) (hF : ZC av1 = some r) :
  CallsR Tryz.prog 72 [.agg (av1.cs).toArray] w (fun v w' => v = vB r ∧ Mem w [] w' []) := by
 refine XJ Tryz.func72 rfl Tryz.ntmps72 rfl ?_
 have hM := Mem.init w
 unfold ZC at hF
 refine sr fun Q2 hQ2 => ?_
 refine RL.eff (E.box (vs := (av1.cs)) hM rfl rfl) rfl fun v w4 hv => ?_
 clear hM
 obtain ⟨g3, rfl, hM, hf⟩ := hv
 refine va rfl rfl (nt hQ2 ?_)
 refine sr fun Q6 hQ6 => ?_
 refine RL.eff (E.alloc hM ze37) rfl fun v w8 hv => ?_
 clear hM
 obtain ⟨g7, rfl, hM, hf⟩ := hv
 refine nt hQ6 ?_
 refine KC.seqH fun Q10 hQ10 => ?_
 replace hM := hM.drewN 1
 refine KC.draw [] [5] [1, 5] [2, 3, 4] (.ofList [0, 3, 4, 1, 2, 5]) moP (by kernel_rfl) ?_
 refine RD.q rfl rfl rfl rfl (fun w' hf => O.loadN (cs := (av1.cs)) ag39 rfl (Cs.addsN [] ((hM.bx (i := 0) rfl).fut hf) rfl)) ?_
 refine RD.p rfl rfl rfl rfl (fun w' => O.fldA fl39_1 (by decide) rfl) ?_
 have hr11 := Rd.arr (n := 16) (k := .u8) (xs := av1.f_B) (Cs.addsN [1] (hM.bx (i := 0) rfl) rfl) rfl rfl
 refine RD.p rfl rfl rfl rfl (fun w' => O.slArr (xs := av1.f_B) Tryz.underlying37 sz5 rfl rfl) ?_
 refine Xx hF fun y12 hx13 hF => ?_
 refine RD.mcall rfl rfl trivial Tryz.func93 bd93 rfl rfl (Xae _ av1 _ hx13) fun v w14 hv => ?_
 obtain ⟨rfl, hN15⟩ := hv
 refine ⟨fun _ => hN15.fut, ?_⟩
 have hr11 := hr11.fut hN15.fut
 replace hM := hM.call0 hN15
 refine Xx hF fun cut17 hy18 hF => ?_
 have hr16 := Rd.arrTo (n := 16) (k := .u8) (xs := (List.replicate 16 0)) (Cs.addsN [] (hM.bx (i := 1) rfl) rfl) rfl rfl hy18
 refine RD.p rfl rfl rfl rfl (fun w' => O.slArrTo Tryz.underlying37 sz5 rfl hy18 rfl rfl) ?_
 refine RD.meff rfl rfl (E.copyA (k := .u8) (n := 16) (j := 1) (xs := (List.replicate 16 0)) (ys := (arrL 16 av1.f_B)) hM rfl sl156 rfl (arr_cut_le hy18) rfl hr11) rfl fun v w19 hv => ?_
 clear hM
 obtain ⟨rfl, hM⟩ := hv
 refine ⟨fun h => (by cases h), ?_⟩
 have hr11 := Rd.arr (n := 16) (k := .u8) (xs := av1.f_B) (Cs.addsN [1] (hM.bx (i := 0) rfl) rfl) rfl rfl
 refine RD.nil (KQ.thn hQ10 ?_)
 refine sr fun Q20 hQ20 => ?_
 refine RL.val (O.fldA fl39_1 (by decide) rfl) rfl ?_
 refine RL.val (O.loadN (cs := (a16 av1.f_B)) ag37 rfl (Cs.addsN [1] ((hM.bx (i := 0) rfl)) rfl)) rfl (RL.val (O.loadN (cs := (a16 (cpA 16 (Nat.min (arrL 16 av1.f_B).length cut17.length) (List.replicate 16 0) (arrL 16 av1.f_B)))) ag37 rfl (Cs.addsN [] ((hM.bx (i := 1) rfl)) rfl)) rfl (RL.val (O.steq (cs := (a16 av1.f_B)) (cs' := (a16 (cpA 16 (Nat.min (arrL 16 av1.f_B).length cut17.length) (List.replicate 16 0) (arrL 16 av1.f_B)))) (by kernel_rfl) rfl rfl (eqArrT Tryz.underlying37 Tryz.underlying5 sz5 av1.f_B (cpA 16 (Nat.min (arrL 16 av1.f_B).length cut17.length) (List.replicate 16 0) (arrL 16 av1.f_B)) _ rfl rfl)) rfl ?_))
 refine va rfl rfl (nt hQ20 (KC.ret ?_))
 have hE := Option.some.inj hF
 clear hF
 subst hE
 replace hM := hM.pick [] rfl (by decide)
 refine KQ.rets Tryz.results72 (RVs.cons (RV.tm rfl) RVs.nil) ?_
 exact ⟨_, rfl, rfl, hM⟩
theorem KK (w : World) (kv1 : Xe) (r : Bool) (hF : Yn kv1 = some r) :
  CallsR Tryz.prog 37 [.agg (kv1.cs).toArray] w (fun v w' => v = vB r ∧ Mem w [] w' []) := by
 refine XJ Tryz.func37 rfl Tryz.ntmps37 rfl ?_
 have hM := Mem.init w
 unfold Yn at hF
 refine sr fun Q2 hQ2 => ?_
 refine RL.eff (E.box (vs := (kv1.cs)) hM rfl rfl) rfl fun v w4 hv => ?_
 clear hM
 obtain ⟨g3, rfl, hM, hf⟩ := hv
 refine va rfl rfl (nt hQ2 ?_)
 refine sr fun Q6 hQ6 => ?_
 refine RL.val (O.loadN (cs := (kv1.cs)) ag42 rfl (Cs.addsN [] ((hM.bx (i := 0) rfl)) rfl)) rfl ?_
 refine RL.eff (E.alloc hM ze42) rfl fun v w8 hv => ?_
 clear hM
 obtain ⟨g7, rfl, hM, hf⟩ := hv
 refine RL.effs (E.stB (j := 1) (off := 0) (vs := (kv1.cs)) (cs' := (kv1.cs)) hM rfl sz42 rfl (XX [] rfl) rfl rfl (One.all rfl) rfl rfl) fun w10 hM1 => ?_
 clear hM
 have hM := hM1
 clear hM1
 refine nt hQ6 ?_
 refine KC.cut (fun a w28 => ∃ (plain26 plain27 : Int), Kn 37 [(1, .pointer (some ⟨g3, 0, none⟩)), (3, .pointer (some ⟨g7, 0, none⟩))] a ∧ Mem w [] w28 [.box g3 42 (kv1.cs), .box g7 42 (kv1.XL.cs ++ kv1.XN.cs ++ [v8 kv1.X2, v16 plain26, v16 plain27])] ∧ YG kv1 plain26 plain27 = some r) ?_ ?_
 ·refine sr fun Q11 hQ11 => ?_
  refine RL.val (O.fldA fl42_2 (by decide) rfl) rfl ?_
  refine RL.val (O.load sc5 rfl (Cs.adds [34] ((hM.bx (i := 0) rfl)) rfl)) rfl ?_
  refine Xx hF fun y12 hx13 hF => ?_
  refine RL.call Tryz.func70 bd70 rfl rfl (Xa2 _ kv1.X2 _ hx13) fun v w14 hv => ?_
  obtain ⟨rfl, hN15⟩ := hv
  replace hM := hM.call0 hN15
  refine RL.val (O.not rfl) rfl (nt hQ11 ?_)
  refine KC.cond rfl (fun hc => ?_) (fun hc => ?_)
  ·rw [if_pos hc] at hF
   refine sr fun Q16 hQ16 => ?_
   refine RL.val (O.fldA fl42_3 (by decide) rfl) rfl ?_
   refine RL.effs (E.stB (j := 1) (off := 35) (vs := [v16 0]) (cs' := (kv1.XL.cs ++ kv1.XN.cs ++ [v8 kv1.X2, v16 0, v16 kv1.X1])) hM rfl sz40 rfl (XX [35] rfl) rfl rfl (One.all rfl) rfl rfl) fun w17 hM1 => ?_
   clear hM
   have hM := hM1
   clear hM1
   refine nt hQ16 ?_
   refine sr fun Q18 hQ18 => ?_
   refine RL.val (O.fldA fl42_2 (by decide) rfl) rfl ?_
   refine RL.val (O.load sc5 rfl (Cs.adds [34] ((hM.bx (i := 0) rfl)) rfl)) rfl ?_
   refine Xx hF fun y19 hx20 hF => ?_
   refine RL.call Tryz.func71 bd71 rfl rfl (Xa5 _ kv1.X2 _ hx20) fun v w21 hv => ?_
   obtain ⟨rfl, hN22⟩ := hv
   replace hM := hM.call0 hN22
   refine RL.val (O.not rfl) rfl (nt hQ18 ?_)
   refine KC.cond rfl (fun hc => ?_) (fun hc => ?_)
   ·rw [if_pos hc] at hF
    refine KC.region (RL.val (O.fldA fl42_4 (by decide) rfl) rfl ?_)
    refine RL.effs (E.stB (j := 1) (off := 36) (vs := [v16 0]) (cs' := (kv1.XL.cs ++ kv1.XN.cs ++ [v8 kv1.X2, v16 0, v16 0])) hM rfl sz40 rfl (XX [36] rfl) rfl rfl (One.all rfl) rfl rfl) fun w23 hM1 => ?_
    clear hM
    have hM := hM1
    clear hM1
    refine RL.nil (KQ.Xy ?_)
    exact fun a ha => ⟨0, 0, ha.less (Xa rfl (Xa rfl Xj)), hM, hF⟩
   rw [if_neg (Xv hc)] at hF
   refine KC.skip (KQ.Xy ?_)
   exact fun a ha => ⟨0, kv1.X1, ha.less (Xa rfl (Xa rfl Xj)), hM, hF⟩
  rw [if_neg (Xv hc)] at hF
  refine KC.skip (KQ.Xy ?_)
  exact fun a ha => ⟨kv1.X6, kv1.X1, ha.less (Xa rfl (Xa rfl Xj)), hM, hF⟩
 rintro a w28 ⟨plain26, plain27, ha, hM, hF⟩
 refine KC.app ha ?_
 clear ha
 unfold YG at hF
 refine KC.cut (fun a w38 => ∃ (t37 : Bool), Kn 37 [(2, vB t37)] a ∧ Mem w [] w38 [] ∧ YK t37 = some r) ?_ ?_
 ·refine KC.region (RL.val (O.fldA fl42_0 (by decide) rfl) rfl ?_)
  refine RL.val (O.loadN (cs := (kv1.XL.cs)) ag39 rfl (Cs.addsN [0] ((hM.bx (i := 0) rfl)) rfl)) rfl ?_
  refine Xx hF fun y29 hx30 hF => ?_
  refine RL.call Tryz.func72 bd72 rfl rfl (V4 _ kv1.XL _ hx30) fun v w31 hv => ?_
  obtain ⟨rfl, hN32⟩ := hv
  replace hM := hM.call0 hN32
  refine vm rfl rfl ?_
  refine RL.bcase (t := 18) rfl (fun hc => ?_) (fun hc => ?_)
  ·rw [if_pos hc] at hF
   refine RL.gval rfl rfl (O.fldA fl42_1 (by decide) rfl) rfl ?_
   refine RL.gval rfl rfl (O.loadN (cs := (kv1.XN.cs)) ag39 rfl (Cs.addsN [17] ((hM.bx (i := 0) rfl)) rfl)) rfl ?_
   refine Xx hF fun y33 hx34 hF => ?_
   refine RL.gcall rfl rfl Tryz.func72 bd72 rfl rfl (V4 _ kv1.XN _ hx34) fun v w35 hv => ?_
   obtain ⟨rfl, hN36⟩ := hv
   replace hM := hM.call0 hN36
   refine RL.val (O.pickt rfl rfl) rfl (vm rfl rfl ?_)
   refine RL.bcase (t := 23) rfl (fun hc => ?_) (fun hc => ?_)
   ·rw [if_pos hc] at hF
    refine RL.gval rfl rfl (O.fldA fl42_0 (by decide) rfl) rfl ?_
    refine RL.gval rfl rfl (O.fldA fl39_0 (by decide) rfl) rfl ?_
    refine RL.gval rfl rfl (O.load sc4 rfl (Cs.adds [0, 0] ((hM.bx (i := 0) rfl)) rfl)) rfl (RL.gval rfl rfl (O.fldA fl42_1 (by decide) rfl) rfl ?_)
    refine RL.gval rfl rfl (O.fldA fl39_0 (by decide) rfl) rfl ?_
    refine RL.gval rfl rfl (O.load sc4 rfl (Cs.adds [17, 0] ((hM.bx (i := 0) rfl)) rfl)) rfl (RL.gval rfl rfl (O.eqlb Tryz.underlying4 rfl rfl) rfl (RL.val (O.pickt rfl rfl) rfl (vm rfl rfl ?_)))
    refine RL.bcase (t := 32) rfl (fun hc => ?_) (fun hc => ?_)
    ·rw [if_pos hc] at hF
     refine RL.gval rfl rfl (O.loadN (cs := (kv1.cs)) ag42 rfl (Cs.addsN [] ((hM.bx (i := 0) rfl)) rfl)) rfl (RL.gval rfl rfl (O.loadN (cs := (kv1.XL.cs ++ kv1.XN.cs ++ [v8 kv1.X2, v16 plain26, v16 plain27])) ag42 rfl (Cs.addsN [] ((hM.bx (i := 1) rfl)) rfl)) rfl (RL.gval rfl rfl (O.steq (cs := (kv1.cs)) (cs' := (kv1.XL.cs ++ kv1.XN.cs ++ [v8 kv1.X2, v16 plain26, v16 plain27])) (by kernel_rfl) rfl rfl (Q42t kv1 (Xe.mk kv1.XL kv1.XN kv1.X2 plain26 plain27) _ rfl rfl)) rfl ?_))
     refine RL.val (O.pickt rfl rfl) rfl (va rfl rfl (RL.nil (KQ.Xy ?_)))
     replace hM := hM.pick [] rfl (by decide)
     exact fun a ha => ⟨(Yg kv1 (Xe.mk kv1.XL kv1.XN kv1.X2 plain26 plain27)), ha.less (Xa rfl Xj), hM, hF⟩
    rw [if_neg (Xv hc)] at hF
    refine RL.brun1 4 36 false (by kernel_rfl) ?_
    refine va rfl rfl (RL.nil (KQ.Xy ?_))
    replace hM := hM.pick [] rfl (by decide)
    exact fun a ha => ⟨false, ha.less (Xa rfl Xj), hM, hF⟩
   rw [if_neg (Xv hc)] at hF
   refine RL.brun1 13 36 false (by kernel_rfl) ?_
   refine va rfl rfl (RL.nil (KQ.Xy ?_))
   replace hM := hM.pick [] rfl (by decide)
   exact fun a ha => ⟨false, ha.less (Xa rfl Xj), hM, hF⟩
  rw [if_neg (Xv hc)] at hF
  refine RL.brun1 18 36 false (by kernel_rfl) ?_
  refine va rfl rfl (RL.nil (KQ.Xy ?_))
  replace hM := hM.pick [] rfl (by decide)
  exact fun a ha => ⟨false, ha.less (Xa rfl Xj), hM, hF⟩
 rintro a w38 ⟨t37, ha, hM, hF⟩
 refine KC.app ha ?_
 clear ha
 unfold YK at hF
 refine KC.ret ?_
 have hE := Option.some.inj hF
 clear hF
 subst hE
 refine KQ.rets Tryz.results37 (RVs.cons (RV.tm rfl) RVs.nil) ?_
 exact ⟨_, rfl, rfl, hM⟩
theorem XaQ (w : World) (av1 b2 r : Int) (hF : U6 av1 b2 = some r) :
  CallsR Tryz.prog 81 [v64 av1, v64 b2] w (fun v w' => v = v64 r ∧ Mem w [] w' []) := by
 refine XJ Tryz.func81 rfl Tryz.ntmps81 rfl ?_
 have hM := Mem.init w
 unfold U6 at hF
 refine sr fun Q3 hQ3 => ?_
 refine va rfl rfl (nt hQ3 ?_)
 refine sr fun Q4 hQ4 => ?_
 refine vm rfl rfl (vm rfl rfl (RL.val (O.add64 Tryz.func96 (by kernel_rfl) (by kernel_rfl) (by kernel_rfl) (by kernel_rfl) rfl rfl rfl) rfl ?_))
 refine vm rfl rfl (RL.val (O.ext rfl rfl) rfl (RL.val (O.ext rfl rfl) rfl (va rfl rfl (va rfl rfl (nt hQ4 ?_)))))
 refine KC.seqH fun Q5 hQ5 => ?_
 refine sr fun Q6 hQ6 => ?_
 refine vm rfl rfl (RL.val (O.gtr rfl rfl) rfl (nt hQ6 ?_))
 refine KC.cond rfl (fun hc => ?_) (fun hc => ?_)
 ·rw [if_pos hc] at hF
  refine sr fun Q7 hQ7 => ?_
  refine va rfl rfl (nt hQ7 (KC.ret (KQ.thr hQ5 ?_)))
  have hE := Option.some.inj hF
  clear hF
  subst hE
  refine KQ.rets Tryz.results81 (RVs.cons (RV.tm rfl) RVs.nil) ?_
  exact ⟨_, rfl, rfl, hM⟩
 rw [if_neg (Xv hc)] at hF
 refine KC.skip (KQ.thn hQ5 ?_)
 refine sr fun Q8 hQ8 => ?_
 refine vm rfl rfl (va rfl rfl (nt hQ8 (KC.ret ?_)))
 have hE := Option.some.inj hF
 clear hF
 subst hE
 refine KQ.rets Tryz.results81 (RVs.cons (RV.tm rfl) RVs.nil) ?_
 exact ⟨_, rfl, rfl, hM⟩
theorem Xal (w : World) (g2 : Nat) (tg6 : TypeId) (cv1 : Xl) (vo4 : Value) (vo5 : Value) (hL8 : Lent w [.box g2 tg6 (v64 cv1.XB :: (cv1.Xb.cs ++ [vo4, vo5]))]) (rv7 : Xc) (r : Int) (hF : Je cv1 rv7 = some r) :
  CallsR Tryz.prog 55 [.pointer (some ⟨g2, 0, none⟩), .agg (rv7.cs).toArray] w (fun v w' => v = v64 r ∧ Mem w [some g2] w' [.box g2 tg6 (v64 cv1.XB :: (cv1.Xb.cs ++ [vo4, vo5]))]) := by
 refine XJ Tryz.func55 rfl Tryz.ntmps55 rfl ?_
 have hM : Mem w [some g2] w [.box g2 tg6 (v64 cv1.XB :: (cv1.Xb.cs ++ [vo4, vo5]))] := Mem.lendN hL8
 unfold Je at hF
 refine sr fun Q9 hQ9 => ?_
 refine RL.eff (E.box (vs := (rv7.cs)) hM rfl rfl) rfl fun v w11 hv => ?_
 clear hM
 obtain ⟨g10, rfl, hM, hf⟩ := hv
 refine va rfl rfl (nt hQ9 ?_)
 refine KC.seqH fun Q13 hQ13 => ?_
 replace hM := hM.drewN 1
 refine KC.draw [] [] [7] [0, 2, 3, 4, 5, 8] (.ofList [0, 1, 2, 3, 4, 5, 6, 7, 8]) moP (by kernel_rfl) ?_
 refine RD.p rfl rfl rfl rfl (fun w' => O.fldA fl62_4 (by decide) rfl) ?_
 refine RD.q rfl rfl rfl rfl (fun w' hf => O.load sc22 rfl (Cs.adds [40] ((hM.bx (i := 1) rfl).fut hf) rfl)) ?_
 refine RD.p rfl rfl rfl rfl (fun w' => O.move rfl) ?_
 refine RD.p rfl rfl rfl rfl (fun w' => O.nilp rfl) ?_
 refine RD.p rfl rfl rfl rfl (fun w' => O.fldA fl69_1 (by decide) rfl) ?_
 refine RD.p rfl rfl rfl rfl (fun w' => O.fldA fl24_1 (by decide) rfl) ?_
 refine RD.q rfl rfl rfl rfl (fun w' hf => O.load sc22 rfl (Cs.adds [1, 1] ((hM.bx (i := 0) rfl).fut hf) rfl)) ?_
 refine Xx hF fun y14 hx15 hF => ?_
 refine RD.mcall rfl rfl trivial Tryz.func81 bd81 rfl rfl (XaQ _ rv7.Ya cv1.Xb.XI _ hx15) fun v w16 hv => ?_
 obtain ⟨rfl, hN17⟩ := hv
 refine ⟨fun _ => hN17.fut, ?_⟩
 replace hM := hM.call0 hN17
 refine RD.p rfl rfl rfl rfl (fun w' => O.assign rfl) (RD.nil (KQ.thn hQ13 (KC.ret ?_)))
 have hE := Option.some.inj hF
 clear hF
 subst hE
 replace hM := hM.pick [0] rfl (by decide)
 refine KQ.rets Tryz.results55 (RVs.cons (RV.tm rfl) RVs.nil) ?_
 exact ⟨_, rfl, rfl, hM⟩
theorem VR (w : World) (g2 : Nat) (tg6 : TypeId) (cv1 : Xl) (vo4 : Value) (vo5 : Value) (hL8 : Lent w [.box g2 tg6 (v64 cv1.XB :: (cv1.Xb.cs ++ [vo4, vo5]))]) (rv7 : Xc) (r : Int) (hF : Je cv1 rv7 = some r) :
  CallsR Tryz.prog 55 [.pointer (some ⟨g2, 0, none⟩), .agg (rv7.cs).toArray] w (fun v w' => v = v64 r ∧ Mem w [] w' []) := Calls.mono (Xal w g2 tg6 cv1 vo4 vo5 hL8 rv7 r hF) fun e w1 ⟨v, he, hv, hm⟩ => ⟨v, he, hv, hm.still hL8 rfl rfl⟩
theorem XaB (w : World) (g2 : Nat) (tg6 : TypeId) (cv1 : Xl) (vo4 : Value) (vo5 : Value) (hL8 : Lent w [.box g2 tg6 (v64 cv1.XB :: (cv1.Xb.cs ++ [vo4, vo5]))]) (rv7 : Xc) (r : Int) (hF : Ze cv1 rv7 = some r) :
  CallsR Tryz.prog 47 [.pointer (some ⟨g2, 0, none⟩), .agg (rv7.cs).toArray] w (fun v w' => v = v64 r ∧ Mem w [some g2] w' [.box g2 tg6 (v64 cv1.XB :: (cv1.Xb.cs ++ [vo4, vo5]))]) := by
 refine XJ Tryz.func47 rfl Tryz.ntmps47 rfl ?_
 have hM : Mem w [some g2] w [.box g2 tg6 (v64 cv1.XB :: (cv1.Xb.cs ++ [vo4, vo5]))] := Mem.lendN hL8
 unfold Ze at hF
 refine sr fun Q9 hQ9 => ?_
 refine RL.eff (E.box (vs := (rv7.cs)) hM rfl rfl) rfl fun v w11 hv => ?_
 clear hM
 obtain ⟨g10, rfl, hM, hf⟩ := hv
 refine va rfl rfl (nt hQ9 ?_)
 refine KC.seqH fun Q13 hQ13 => ?_
 replace hM := hM.drewN 1
 refine KC.draw [] [] [2, 10] [0, 3, 5, 6, 7, 8, 11, 12] (.ofList [0, 1, 3, 4, 5, 6, 7, 8, 9, 2, 10, 11, 12]) moP (by kernel_rfl) ?_
 refine RD.p rfl rfl rfl rfl (fun w' => O.move rfl) ?_
 refine RD.q rfl rfl rfl rfl (fun w' hf => O.loadN (cs := (rv7.cs)) ag62 rfl (Cs.addsN [] ((hM.bx (i := 1) rfl).fut hf) rfl)) ?_
 refine RD.p rfl rfl rfl rfl (fun w' => O.fldA fl62_3 (by decide) rfl) ?_
 refine RD.q rfl rfl rfl rfl (fun w' hf => O.load sc22 rfl (Cs.adds [39] ((hM.bx (i := 1) rfl).fut hf) rfl)) ?_
 refine RD.p rfl rfl rfl rfl (fun w' => O.move rfl) ?_
 refine RD.p rfl rfl rfl rfl (fun w' => O.nilp rfl) ?_
 refine RD.p rfl rfl rfl rfl (fun w' => O.fldA fl69_1 (by decide) rfl) ?_
 refine RD.p rfl rfl rfl rfl (fun w' => O.fldA fl24_2 (by decide) rfl) ?_
 refine RD.q rfl rfl rfl rfl (fun w' hf => O.load sc22 rfl (Cs.adds [1, 2] ((hM.bx (i := 0) rfl).fut hf) rfl)) ?_
 refine Xx hF fun y14 hx15 hF => ?_
 refine RD.mcall rfl rfl trivial Tryz.func55 bd55 rfl rfl (VR _ _ _ cv1 _ _ (hM.lent [0] rfl (by decide)) rv7 _ hx15) fun v w16 hv => ?_
 obtain ⟨rfl, hN17⟩ := hv
 refine ⟨fun _ => hN17.fut, ?_⟩
 replace hM := hM.call0 hN17
 refine Xx hF fun y18 hx19 hF => ?_
 refine RD.mcall rfl rfl trivial Tryz.func81 bd81 rfl rfl (XaQ _ rv7.X4 cv1.Xb.XA _ hx19) fun v w20 hv => ?_
 obtain ⟨rfl, hN21⟩ := hv
 refine ⟨fun _ => hN21.fut, ?_⟩
 replace hM := hM.call0 hN21
 refine RD.p rfl rfl rfl rfl (fun w' => O.min2 rfl rfl) ?_
 refine RD.p rfl rfl rfl rfl (fun w' => O.assign rfl) (RD.nil (KQ.thn hQ13 (KC.ret ?_)))
 have hE := Option.some.inj hF
 clear hF
 subst hE
 replace hM := hM.pick [0] rfl (by decide)
 refine KQ.rets Tryz.results47 (RVs.cons (RV.tm rfl) RVs.nil) ?_
 exact ⟨_, rfl, rfl, hM⟩
theorem KR (w : World) (g2 : Nat) (tg6 : TypeId) (cv1 : Xl) (vo4 : Value) (vo5 : Value) (hL8 : Lent w [.box g2 tg6 (v64 cv1.XB :: (cv1.Xb.cs ++ [vo4, vo5]))]) (rv7 : Xc) (r : Int) (hF : Ze cv1 rv7 = some r) :
  CallsR Tryz.prog 47 [.pointer (some ⟨g2, 0, none⟩), .agg (rv7.cs).toArray] w (fun v w' => v = v64 r ∧ Mem w [] w' []) := Calls.mono (XaB w g2 tg6 cv1 vo4 vo5 hL8 rv7 r hF) fun e w1 ⟨v, he, hv, hm⟩ => ⟨v, he, hv, hm.still hL8 rfl rfl⟩
theorem VK (w : World) (xv1 : Int) (r : Bool) (hF : KJ xv1 = some r) :
  CallsR Tryz.prog 83 [v64 xv1] w (fun v w' => v = vB r ∧ Mem w [] w' []) := by
 refine XJ Tryz.func83 rfl Tryz.ntmps83 rfl ?_
 have hM := Mem.init w
 unfold KJ at hF
 refine sr fun Q2 hQ2 => ?_
 refine va rfl rfl (nt hQ2 ?_)
 refine sr fun Q3 hQ3 => ?_
 refine vm rfl rfl (vm rfl rfl (RL.val (O.neq rfl rfl) rfl (va rfl rfl (nt hQ3 (KC.ret ?_)))))
 have hE := Option.some.inj hF
 clear hF
 subst hE
 refine KQ.rets Tryz.results83 (RVs.cons (RV.tm rfl) RVs.nil) ?_
 exact ⟨_, rfl, rfl, hM⟩
theorem Vy (w : World) (xv1 y2 r : Int) (hF : Jp xv1 y2 = some r) :
  CallsR Tryz.prog 51 [v64 xv1, v64 y2] w (fun v w' => v = vI r ∧ Mem w [] w' []) := by
 refine XJ Tryz.func51 rfl Tryz.ntmps51 rfl ?_
 have hM := Mem.init w
 unfold Jp at hF
 refine sr fun Q3 hQ3 => ?_
 refine va rfl rfl (nt hQ3 ?_)
 refine sr fun Q4 hQ4 => ?_
 refine vm rfl rfl ?_
 refine Xx hF fun y5 hx6 hF => ?_
 refine RL.call Tryz.func83 bd83 rfl rfl (VK _ xv1 _ hx6) fun v w7 hv => ?_
 obtain ⟨rfl, hN8⟩ := hv
 replace hM := hM.call0 hN8
 refine va rfl rfl (nt hQ4 ?_)
 refine sr fun Q9 hQ9 => ?_
 refine vm rfl rfl ?_
 refine Xx hF fun y10 hx11 hF => ?_
 refine RL.call Tryz.func83 bd83 rfl rfl (VK _ y2 _ hx11) fun v w12 hv => ?_
 obtain ⟨rfl, hN13⟩ := hv
 replace hM := hM.call0 hN13
 refine va rfl rfl (nt hQ9 ?_)
 refine KC.seqH fun Q14 hQ14 => ?_
 refine sr fun Q15 hQ15 => ?_
 refine vm rfl rfl (nt hQ15 ?_)
 refine KC.cond rfl (fun hc => ?_) (fun hc => ?_)
 ·rw [if_pos hc] at hF
  refine KC.seqH fun Q16 hQ16 => ?_
  refine sr fun Q17 hQ17 => ?_
  refine vm rfl rfl (nt hQ17 ?_)
  refine KC.cond rfl (fun hc => ?_) (fun hc => ?_)
  ·rw [if_pos hc] at hF
   refine sr fun Q18 hQ18 => ?_
   refine va rfl rfl (nt hQ18 (KC.ret (KQ.thr hQ16 (KQ.thr hQ14 ?_))))
   have hE := Option.some.inj hF
   clear hF
   subst hE
   refine KQ.rets Tryz.results51 (RVs.cons (RV.tm rfl) RVs.nil) ?_
   exact ⟨_, rfl, rfl, hM⟩
  rw [if_neg (Xv hc)] at hF
  refine KC.skip (KQ.thn hQ16 ?_)
  refine sr fun Q19 hQ19 => ?_
  refine va rfl rfl (nt hQ19 (KC.ret (KQ.thr hQ14 ?_)))
  have hE := Option.some.inj hF
  clear hF
  subst hE
  refine KQ.rets Tryz.results51 (RVs.cons (RV.tm rfl) RVs.nil) ?_
  exact ⟨_, rfl, rfl, hM⟩
 rw [if_neg (Xv hc)] at hF
 refine KC.skip (KQ.thn hQ14 ?_)
 refine KC.seqH fun Q20 hQ20 => ?_
 refine sr fun Q21 hQ21 => ?_
 refine vm rfl rfl (nt hQ21 ?_)
 refine KC.cond rfl (fun hc => ?_) (fun hc => ?_)
 ·rw [if_pos hc] at hF
  refine sr fun Q22 hQ22 => ?_
  refine va rfl rfl (nt hQ22 (KC.ret (KQ.thr hQ20 ?_)))
  have hE := Option.some.inj hF
  clear hF
  subst hE
  refine KQ.rets Tryz.results51 (RVs.cons (RV.tm rfl) RVs.nil) ?_
  exact ⟨_, rfl, rfl, hM⟩
 rw [if_neg (Xv hc)] at hF
 refine KC.skip (KQ.thn hQ20 ?_)
 refine KC.seqH fun Q23 hQ23 => ?_
 refine sr fun Q24 hQ24 => ?_
 refine vm rfl rfl (vm rfl rfl (RL.val (O.lss rfl rfl) rfl (nt hQ24 ?_)))
 refine KC.cond rfl (fun hc => ?_) (fun hc => ?_)
 ·rw [if_pos hc] at hF
  refine sr fun Q25 hQ25 => ?_
  refine va rfl rfl (nt hQ25 (KC.ret (KQ.thr hQ23 ?_)))
  have hE := Option.some.inj hF
  clear hF
  subst hE
  refine KQ.rets Tryz.results51 (RVs.cons (RV.tm rfl) RVs.nil) ?_
  exact ⟨_, rfl, rfl, hM⟩
 rw [if_neg (Xv hc)] at hF
 refine KC.skip (KQ.thn hQ23 ?_)
 refine KC.seqH fun Q26 hQ26 => ?_
 refine sr fun Q27 hQ27 => ?_
 refine vm rfl rfl (vm rfl rfl (RL.val (O.gtr rfl rfl) rfl (nt hQ27 ?_)))
 refine KC.cond rfl (fun hc => ?_) (fun hc => ?_)
 ·rw [if_pos hc] at hF
  refine sr fun Q28 hQ28 => ?_
  refine va rfl rfl (nt hQ28 (KC.ret (KQ.thr hQ26 ?_)))
  have hE := Option.some.inj hF
  clear hF
  subst hE
  refine KQ.rets Tryz.results51 (RVs.cons (RV.tm rfl) RVs.nil) ?_
  exact ⟨_, rfl, rfl, hM⟩
 rw [if_neg (Xv hc)] at hF
 refine KC.skip (KQ.thn hQ26 ?_)
 refine sr fun Q29 hQ29 => ?_
 refine va rfl rfl (nt hQ29 (KC.ret ?_))
 have hE := Option.some.inj hF
 clear hF
 subst hE
 refine KQ.rets Tryz.results51 (RVs.cons (RV.tm rfl) RVs.nil) ?_
 exact ⟨_, rfl, rfl, hM⟩
theorem KT (w : World) (g2 : Nat) (tg7 : TypeId) (wv1 : Y9) (A4 : Option Addr) (c5 : Nat) (hL13 : Lent w [.box g2 tg7 [.slice A4 (wv1.f_b).length c5], .row A4 c5 5 1 (wv1.f_b).length ((wv1.f_b).flatMap (eI .u8))]) (A9 : Option Addr) (c10 : Nat) (b8 : List Int) (hr11 : Rd w A9 c10 1 b8.length (b8.flatMap (eI .u8))) (ho12 : Off [some g2, rblk A4 c5] b8.length A9) (r : Int × Y9) (hF : ZB wv1 b8 = some r) :
  CallsR Tryz.prog 117 [.pointer (some ⟨g2, 0, none⟩), .slice A9 (b8).length c10] w (fun v w' => ∃ (A0 : Option Addr) (c0 : Nat), v = vI r.1 ∧ Mem w [some g2, rblk A4 c5] w' [.box g2 tg7 [.slice A0 (r.2.f_b).length c0], .row A0 c0 5 1 r.2.f_b.length (r.2.f_b.flatMap (eI .u8))]) := by
 refine XJ Tryz.func117 rfl Tryz.ntmps117 rfl ?_
 have hM : Mem w [some g2, rblk A4 c5] w [.box g2 tg7 [.slice A4 (wv1.f_b).length c5], .row A4 c5 5 1 (wv1.f_b).length ((wv1.f_b).flatMap (eI .u8))] := Mem.lendN hL13
 unfold ZB at hF
 refine sr fun Q14 hQ14 => ?_
 refine va rfl rfl (nt hQ14 ?_)
 refine KC.seqH fun Q15 hQ15 => ?_
 refine sr fun Q16 hQ16 => ?_
 refine vm rfl rfl (RL.val (O.peqn Tryz.underlying190 rfl rfl) rfl (nt hQ16 (KC.condF rfl (KC.skip (KQ.thn hQ15 ?_)))))
 refine sr fun Q17 hQ17 => ?_
 refine vm rfl rfl (vm rfl rfl (RL.val (O.nilp rfl) rfl (RL.val (O.fldA fl181_0 (by decide) rfl) rfl ?_)))
 refine RL.val (O.load sc156 rfl (Cs.adds [0] ((hM.bx (i := 0) rfl)) rfl)) rfl (vm rfl rfl ?_)
 refine XZ hF fun hq21 hF => ?_
 refine RL.eff (E.app (enc := (eI .u8)) (xs := wv1.f_b) (ys := b8) (j := 1) hM rfl sl156 ze5 rfl rfl rfl rfl rfl (hM.inp hr11 ho12) (fun _ => One.all rfl) (of_decide_eq_true hq21)) rfl fun v w20 hv => ?_
 clear hM
 obtain ⟨A18, c19, rfl, hM, hf⟩ := hv
 refine RL.val (O.nilp rfl) rfl (RL.val (O.fldA fl181_0 (by decide) rfl) rfl ?_)
 refine RL.effs (E.stB (j := 0) (off := 0) (vs := [.slice A18 ((wv1.f_b ++ b8)).length c19]) (cs' := [.slice A18 ((wv1.f_b ++ b8)).length c19]) hM rfl sz156 rfl (XX [0] rfl) rfl rfl (One.all rfl) rfl rfl) fun w23 hM1 => ?_
 clear hM
 have hM := hM1
 clear hM1
 refine nt hQ17 ?_
 refine sr fun Q24 hQ24 => ?_
 refine va rfl rfl (nt hQ24 (KC.ret ?_))
 have hE := Option.some.inj hF
 clear hF
 subst hE
 refine KQ.rets Tryz.results117 (RVs.cons (RV.tm rfl) RVs.nil) ?_
 exact ⟨_, rfl, A18, c19, rfl, hM⟩
theorem Xa7 (w : World) (A2 : Option Addr) (c3 : Nat) (b1 : List Int) (hr4 : Rd w A2 c3 1 b1.length (b1.flatMap (eI .u8))) (r : (List Int)) (hF : Vz b1 = some r) :
  CallsR Tryz.prog 127 [.slice A2 (b1).length c3] w (fun v w' => ∃ (A0 : Option Addr) (c0 : Nat), v = .slice A0 (r).length c0 ∧ Mem w [] w' [.row A0 c0 5 1 r.length (r.flatMap (eI .u8))]) := by
 refine XJ Tryz.func127 rfl Tryz.ntmps127 rfl ?_
 have hM := Mem.init w
 unfold Vz at hF
 refine sr fun Q5 hQ5 => ?_
 refine va rfl rfl (nt hQ5 ?_)
 refine KC.seqH fun Q6 hQ6 => ?_
 refine sr fun Q7 hQ7 => ?_
 refine vm rfl rfl (RL.val (O.sleqn sl156 rfl rfl) rfl (nt hQ7 ?_))
 refine KC.cond rfl (fun hc => ?_) (fun hc => ?_)
 ·have hz8 := Rd.none_nil (hM.inp hr4 Off.nil) (hc)
  have hF : (some ([])) = some r := by (rw [hz8] at hF; simpa [lim] using hF)
  refine sr fun Q9 hQ9 => ?_
  refine va rfl rfl (nt hQ9 (KC.ret (KQ.thr hQ6 ?_)))
  have hE := Option.some.inj hF
  clear hF
  subst hE
  replace hM := hM.nilrow 5 1
  refine KQ.rets Tryz.results127 (RVs.cons (RV.tm rfl) RVs.nil) ?_
  exact ⟨_, rfl, none, 0, rfl, hM⟩
 refine KC.skip (KQ.thn hQ6 ?_)
 refine sr fun Q10 hQ10 => ?_
 refine RL.eff (E.bsl0 hM sl156) rfl fun v w11 hv => ?_
 clear hM
 obtain ⟨A12, rfl, hM, hf⟩ := hv
 refine vm rfl rfl ?_
 refine XZ hF fun hq17 hF => ?_
 refine RL.eff (E.app (enc := (eI .u8)) (xs := ([] : List Int)) (ys := b1) (j := 0) hM rfl sl156 ze5 rfl rfl rfl rfl rfl (hM.inp hr4 Off.nil) (fun _ => One.all rfl) (of_decide_eq_true hq17)) rfl fun v w16 hv => ?_
 clear hM
 obtain ⟨A14, c15, rfl, hM, hf⟩ := hv
 refine va rfl rfl (nt hQ10 (KC.ret ?_))
 have hE := Option.some.inj hF
 clear hF
 subst hE
 refine KQ.rets Tryz.results127 (RVs.cons (RV.tm rfl) RVs.nil) ?_
 exact ⟨_, rfl, A14, c15, rfl, hM⟩
theorem VY (w : World) (av1 : Xd) (r : (List Int)) (hF : Ke av1 = some r) :
  CallsR Tryz.prog 118 [.agg (av1.cs).toArray] w (fun v w' => ∃ (A0 : Option Addr) (c0 : Nat), v = .slice A0 (r).length c0 ∧ Mem w [] w' [.row A0 c0 5 1 r.length (r.flatMap (eI .u8))]) := by
 refine XJ Tryz.func118 rfl Tryz.ntmps118 rfl ?_
 have hM := Mem.init w
 unfold Ke at hF
 refine sr fun Q2 hQ2 => ?_
 refine RL.eff (E.box (vs := (av1.cs)) hM rfl rfl) rfl fun v w4 hv => ?_
 clear hM
 obtain ⟨g3, rfl, hM, hf⟩ := hv
 refine va rfl rfl (nt hQ2 ?_)
 refine sr fun Q6 hQ6 => ?_
 refine RL.val (O.fldA fl39_1 (by decide) rfl) rfl ?_
 refine RL.val (O.loadN (cs := (av1.cs)) ag39 rfl (Cs.addsN [] ((hM.bx (i := 0) rfl)) rfl)) rfl ?_
 refine Xx hF fun y7 hx8 hF => ?_
 refine RL.call Tryz.func93 bd93 rfl rfl (Xae _ av1 _ hx8) fun v w9 hv => ?_
 obtain ⟨rfl, hN10⟩ := hv
 replace hM := hM.call0 hN10
 refine Xx hF fun cut12 hy13 hF => ?_
 have hr11 := Rd.arrTo (n := 16) (k := .u8) (xs := av1.f_B) (Cs.addsN [1] (hM.bx (i := 0) rfl) rfl) rfl rfl hy13
 refine RL.val (O.slArrTo Tryz.underlying37 sz5 rfl hy13 rfl rfl) rfl ?_
 refine Xx hF fun y14 hx15 hF => ?_
 refine RL.call Tryz.func127 bd127 rfl rfl (Xa7 _ _ _ cut12 hr11 _ hx15) fun v w16 hv => ?_
 obtain ⟨A18, c19, rfl, hN17⟩ := hv
 have hr11 := hr11.fut hN17.fut
 replace hM := hM.call hN17
 refine va rfl rfl (nt hQ6 (KC.ret ?_))
 have hE := Option.some.inj hF
 clear hF
 subst hE
 replace hM := hM.pick [1] rfl (by decide)
 refine KQ.rets Tryz.results118 (RVs.cons (RV.tm rfl) RVs.nil) ?_
 exact ⟨_, rfl, A18, c19, rfl, hM⟩
theorem Xbf (w : World) (size1 : Int) (r : Bool) (hF : VQ size1 = some r) :
  CallsR Tryz.prog 132 [vI size1] w (fun v w' => v = vB r ∧ Mem w [] w' []) := by
 refine XJ Tryz.func132 rfl Tryz.ntmps132 rfl ?_
 have hM := Mem.init w
 unfold VQ at hF
 refine sr fun Q2 hQ2 => ?_
 refine va rfl rfl (nt hQ2 ?_)
 refine KC.cut (fun a w4 => ∃ (t3 : Bool), Kn 9 [(2, vB t3)] a ∧ Mem w [] w4 [] ∧ UM t3 = some r) ?_ ?_
 ·refine KC.region (vm rfl rfl (RL.val (O.geq rfl rfl) rfl (vm rfl rfl ?_)))
  refine RL.bcase (t := 5) rfl (fun hc => ?_) (fun hc => ?_)
  ·rw [if_pos hc] at hF
   refine RL.gval rfl rfl (O.move rfl) rfl (RL.gval rfl rfl (O.leq rfl rfl) rfl (RL.val (O.pickt rfl rfl) rfl (va rfl rfl (RL.nil (KQ.Xy ?_)))))
   exact fun a ha => ⟨(decide (size1 ≤ 8)), ha.less (Xa rfl Xj), hM, hF⟩
  rw [if_neg (Xv hc)] at hF
  refine RL.gskip rfl rfl rfl rfl (RL.gskip rfl rfl rfl rfl (RL.val (O.pickf rfl rfl) rfl (va rfl rfl (RL.nil (KQ.Xy ?_)))))
  exact fun a ha => ⟨false, ha.less (Xa rfl Xj), hM, hF⟩
 rintro a w4 ⟨t3, ha, hM, hF⟩
 refine KC.app ha ?_
 clear ha
 unfold UM at hF
 refine KC.ret ?_
 have hE := Option.some.inj hF
 clear hF
 subst hE
 refine KQ.rets Tryz.results132 (RVs.cons (RV.tm rfl) RVs.nil) ?_
 exact ⟨_, rfl, rfl, hM⟩
theorem Xbh (w : World) (v1 r : Int) (hF : Vq v1 = some r) :
  CallsR Tryz.prog 133 [v64 v1] w (fun v w' => v = vI r ∧ Mem w [] w' []) := by
 refine XJ Tryz.func133 rfl Tryz.ntmps133 rfl ?_
 have hM := Mem.init w
 unfold Vq at hF
 refine sr fun Q2 hQ2 => ?_
 refine va rfl rfl (nt hQ2 ?_)
 refine sr fun Q3 hQ3 => ?_
 refine va rfl rfl (nt hQ3 ?_)
 refine KC.seqH fun Q4 hQ4 => ?_
 refine sr fun Q5 hQ5 => ?_
 refine vm rfl rfl (RL.val (O.shr rfl rfl (by decide)) rfl ?_)
 refine va rfl rfl (nt hQ5 (KC.block ?_))
 refine KC.loop (fun k18 a w16 => ∃ (v14 nv15 : Int), Kn 13 [(0, v64 v14), (3, vI nv15)] a ∧ Mem w [] w16 [] ∧ Kp k18 v14 nv15 = some r) ?_ ?_
 ·exact fun a ha => ⟨fuel0, (Ox.shr .u64 v1 8), 1, ha.less (Xa rfl (Xa rfl Xj)), hM, hF⟩
 rintro k18 a w16 ⟨v14, nv15, ha, hM, hF⟩
 refine KC.app ha ?_
 clear ha
 cases k18 with
 | zero => exact (Yl hF).elim
 | succ k18 =>
 have hF : Ki (Kp k18) v14 nv15 = some r := hF
 unfold Ki at hF
 refine KC.seqH fun Q19 hQ19 => ?_
 refine sr fun Q20 hQ20 => ?_
 refine vm rfl rfl (RL.val (O.gtr rfl rfl) rfl (nt hQ20 ?_))
 refine KC.cond rfl (fun hc => ?_) (fun hc => ?_)
 ·rw [if_pos hc] at hF
  refine KC.skip (KQ.thn hQ19 ?_)
  refine KC.seqH fun Q21 hQ21 => ?_
  refine KC.block (KC.region (vm rfl rfl (RL.val (O.add rfl rfl) rfl (va rfl rfl (RL.nil (KQ.blk_n ?_))))))
  refine KQ.thn hQ21 (KC.region (vm rfl rfl (RL.val (O.shr rfl rfl (by decide)) rfl ?_)))
  refine va rfl rfl (RL.nil (KQ.Xy ?_))
  exact fun a ha => ⟨k18, Nat.lt_succ_self k18, (Ox.shr .u64 v14 8), (IntKind.i64.wrap (nv15 + 1)), ha.less (Xa rfl (Xa rfl Xj)), hM, hF⟩
 rw [if_neg (Xv hc)] at hF
 refine KC.exit (KQ.thx hQ19 (KQ.then_x (KQ.blk_x (KQ.thn hQ4 ?_))))
 refine sr fun Q22 hQ22 => ?_
 refine vm rfl rfl (va rfl rfl (nt hQ22 (KC.ret ?_)))
 have hE := Option.some.inj hF
 clear hF
 subst hE
 refine KQ.rets Tryz.results133 (RVs.cons (RV.tm rfl) RVs.nil) ?_
 exact ⟨_, rfl, rfl, hM⟩
theorem Xbn (w : World) (v1 size2 : Int) (r : Bool) (hF : VE v1 size2 = some r) :
  CallsR Tryz.prog 128 [v64 v1, vI size2] w (fun v w' => v = vB r ∧ Mem w [] w' []) := by
 refine XJ Tryz.func128 rfl Tryz.ntmps128 rfl ?_
 have hM := Mem.init w
 unfold VE at hF
 refine sr fun Q3 hQ3 => ?_
 refine va rfl rfl (nt hQ3 ?_)
 refine KC.cut (fun a w13 => ∃ (t12 : Bool), Kn 13 [(4, vB t12)] a ∧ Mem w [] w13 [] ∧ Ue t12 = some r) ?_ ?_
 ·refine KC.region (vm rfl rfl ?_)
  refine Xx hF fun y4 hx5 hF => ?_
  refine RL.call Tryz.func132 bd132 rfl rfl (Xbf _ size2 _ hx5) fun v w6 hv => ?_
  obtain ⟨rfl, hN7⟩ := hv
  replace hM := hM.call0 hN7
  refine vm rfl rfl ?_
  refine RL.bcase (t := 7) rfl (fun hc => ?_) (fun hc => ?_)
  ·rw [if_pos hc] at hF
   refine RL.gval rfl rfl (O.move rfl) rfl ?_
   refine Xx hF fun y8 hx9 hF => ?_
   refine RL.gcall rfl rfl Tryz.func133 bd133 rfl rfl (Xbh _ v1 _ hx9) fun v w10 hv => ?_
   obtain ⟨rfl, hN11⟩ := hv
   replace hM := hM.call0 hN11
   refine RL.gval rfl rfl (O.move rfl) rfl (RL.gval rfl rfl (O.leq rfl rfl) rfl (RL.val (O.pickt rfl rfl) rfl (va rfl rfl (RL.nil (KQ.Xy ?_)))))
   exact fun a ha => ⟨(decide (y8 ≤ size2)), ha.less (Xa rfl Xj), hM, hF⟩
  rw [if_neg (Xv hc)] at hF
  refine RL.brun1 5 12 false (by kernel_rfl) ?_
  refine va rfl rfl (RL.nil (KQ.Xy ?_))
  exact fun a ha => ⟨false, ha.less (Xa rfl Xj), hM, hF⟩
 rintro a w13 ⟨t12, ha, hM, hF⟩
 refine KC.app ha ?_
 clear ha
 unfold Ue at hF
 refine KC.ret ?_
 have hE := Option.some.inj hF
 clear hF
 subst hE
 refine KQ.rets Tryz.results128 (RVs.cons (RV.tm rfl) RVs.nil) ?_
 exact ⟨_, rfl, rfl, hM⟩
theorem Xbs (w : World) (v1 size2 : Int) (r : (List Int)) (hF : Xag v1 size2 = some r) :
  CallsR Tryz.prog 129 [v64 v1, vI size2] w (fun v w' => ∃ (A0 : Option Addr) (c0 : Nat), v = .slice A0 (r).length c0 ∧ Mem w [] w' [.row A0 c0 5 1 r.length (r.flatMap (eI .u8))]) := by
 refine XJ Tryz.func129 rfl Tryz.ntmps129 rfl ?_
 have hM := Mem.init w
 unfold Xag at hF
 refine sr fun Q3 hQ3 => ?_
 refine va rfl rfl (nt hQ3 ?_)
 refine sr fun Q4 hQ4 => ?_
 refine vm rfl rfl ?_
 refine XZ hF fun hq7 hF => ?_
 refine RL.eff (E.mks (enc := (eI .u8)) (zr := 0) hM sl156 ze5 rfl rfl (fun _ => rfl) rfl rfl rfl (of_decide_eq_true hq7)) rfl fun v w6 hv => ?_
 clear hM
 obtain ⟨A5, rfl, hM, hf⟩ := hv
 refine va rfl rfl (nt hQ4 ?_)
 refine KC.seqH fun Q9 hQ9 => ?_
 refine sr fun Q10 hQ10 => ?_
 refine vm rfl rfl (vm rfl rfl (nt hQ10 (KC.block ?_)))
 refine KC.loop (fun k43 a w41 => ∃ (A37 : Option Addr) (c38 : Nat) (b39 : List Int) (t40 : Int), Kn 26 [(0, v64 v1), (1, vI size2), (5, .slice A37 (b39).length c38), (9, vI size2), (10, vI t40)] a ∧ Mem w [] w41 [.row A37 c38 5 1 (b39).length ((b39).flatMap (eI .u8))] ∧ U7 v1 size2 k43 b39 t40 = some r) ?_ ?_
 ·exact fun a ha => ⟨fuel0, A5, (Int.toNat size2), (List.replicate (Int.toNat size2) (0 : Int)), 0, ha.less (Xa rfl (Xa rfl (Xa rfl (Xa rfl (Xa rfl Xj))))), hM, hF⟩
 rintro k43 a w41 ⟨A37, c38, b39, t40, ha, hM, hF⟩
 refine KC.app ha ?_
 clear ha
 cases k43 with
 | zero => exact (Yl hF).elim
 | succ k43 =>
 have hF : Vt (U7 v1 size2 k43) v1 size2 b39 t40 = some r := hF
 unfold Vt at hF
 refine sr fun Q44 hQ44 => ?_
 refine RL.val (O.lss rfl rfl) rfl (nt hQ44 ?_)
 refine KC.seqH fun Q45 hQ45 => ?_
 refine KC.cond rfl (fun hc => ?_) (fun hc => ?_)
 ·rw [if_pos hc] at hF
  refine KC.skip (KQ.thn hQ45 ?_)
  refine KC.seqH fun Q46 hQ46 => ?_
  refine KC.block ?_
  refine sr fun Q47 hQ47 => ?_
  refine vm rfl rfl (va rfl rfl (nt hQ47 (KC.region (vm rfl rfl (vm rfl rfl (RL.val (O.sub rfl rfl) rfl ?_))))))
  refine vm rfl rfl (RL.val (O.sub rfl rfl) rfl (vm rfl rfl (vm rfl rfl (RL.val (O.mul rfl rfl) rfl ?_))))
  refine XZ hF fun hq48 hF => ?_
  refine RL.val (O.shr rfl rfl (of_decide_eq_true hq48)) rfl (RL.val (O.conv un22 Tryz.underlying5 rfl) rfl ?_)
  refine Xx hF fun xv51 hx50 hF => ?_
  have hA49 := Rd.atN (f := (eI .u8)) (s := 1) (fun _ => rfl) (by decide) (hM.rd (i := 0) rfl) hx50
  refine RL.val (O.idxA sl156 (hA49) rfl rfl) rfl ?_
  refine RL.effs (E.stR (enc := (eI .u8)) (j := 0) (off := 0) (vs := [v8 (IntKind.u8.wrap (Ox.shr .u64 v1 (IntKind.i64.wrap (8 * t40))))]) (x' := (IntKind.u8.wrap (Ox.shr .u64 v1 (IntKind.i64.wrap (8 * t40))))) hM rfl (fun _ => rfl) hx50 sz5 rfl (addsR_eq [] rfl) rfl rfl (One.all rfl) rfl rfl) fun w52 hM1 => ?_
  clear hM
  obtain ⟨hM, hn53⟩ := hM1
  refine RL.reslot (t := 5) rfl hn53 (RL.reslot (t := 13) rfl hn53 (RL.nil (KQ.blk_n (KQ.thn hQ46 (KC.region (RL.val (O.add rfl rfl) rfl ?_))))))
  refine vm rfl rfl (RL.nil (KQ.Xy ?_))
  exact fun a ha => ⟨k43, Nat.lt_succ_self k43, A37, c38, (b39.set ((IntKind.i64.wrap ((IntKind.i64.wrap (size2 - 1)) - t40)) : Int).toNat (IntKind.u8.wrap (Ox.shr .u64 v1 (IntKind.i64.wrap (8 * t40))))), (IntKind.i64.wrap (t40 + 1)), ha.less (Xa rfl (Xa rfl (Xa rfl (Xa rfl (Xa rfl Xj))))), hM, hF⟩
 rw [if_neg (Xv hc)] at hF
 refine KC.exit (KQ.thx hQ45 (KQ.then_x (KQ.blk_x (KQ.thn hQ9 ?_))))
 refine sr fun Q54 hQ54 => ?_
 refine vm rfl rfl (va rfl rfl (nt hQ54 (KC.ret ?_)))
 have hE := Option.some.inj hF
 clear hF
 subst hE
 refine KQ.rets Tryz.results129 (RVs.cons (RV.tm rfl) RVs.nil) ?_
 exact ⟨_, rfl, A37, c38, rfl, hM⟩
theorem V5 (w : World) (g2 : Nat) (tg7 : TypeId) (wv1 : Y9) (A4 : Option Addr) (c5 : Nat) (hL10 : Lent w [.box g2 tg7 [.slice A4 (wv1.f_b).length c5], .row A4 c5 5 1 (wv1.f_b).length ((wv1.f_b).flatMap (eI .u8))]) (v8 size9 : Int) (r : Int × Y9) (hF : JC wv1 v8 size9 = some r) :
  CallsR Tryz.prog 119 [.pointer (some ⟨g2, 0, none⟩), v64 v8, vI size9] w (fun v w' => ∃ (A0 : Option Addr) (c0 : Nat), v = vI r.1 ∧ Mem w [some g2, rblk A4 c5] w' [.box g2 tg7 [.slice A0 (r.2.f_b).length c0], .row A0 c0 5 1 r.2.f_b.length (r.2.f_b.flatMap (eI .u8))]) := by
 refine XJ Tryz.func119 rfl Tryz.ntmps119 rfl ?_
 have hM : Mem w [some g2, rblk A4 c5] w [.box g2 tg7 [.slice A4 (wv1.f_b).length c5], .row A4 c5 5 1 (wv1.f_b).length ((wv1.f_b).flatMap (eI .u8))] := Mem.lendN hL10
 unfold JC at hF
 refine sr fun Q11 hQ11 => ?_
 refine va rfl rfl (nt hQ11 ?_)
 refine KC.seqH fun Q12 hQ12 => ?_
 refine sr fun Q13 hQ13 => ?_
 refine vm rfl rfl (RL.val (O.peqn Tryz.underlying190 rfl rfl) rfl (nt hQ13 (KC.condF rfl (KC.skip (KQ.thn hQ12 ?_)))))
 refine KC.seqH fun Q14 hQ14 => ?_
 refine sr fun Q15 hQ15 => ?_
 refine vm rfl rfl (vm rfl rfl ?_)
 refine Xx hF fun y16 hx17 hF => ?_
 refine RL.call Tryz.func128 bd128 rfl rfl (Xbn _ v8 size9 _ hx17) fun v w18 hv => ?_
 obtain ⟨rfl, hN19⟩ := hv
 replace hM := hM.call0 hN19
 refine RL.val (O.not rfl) rfl (nt hQ15 ?_)
 refine KC.cond rfl (fun hc => ?_) (fun hc => ?_)
 ·rw [if_pos hc] at hF
  refine sr fun Q20 hQ20 => ?_
  refine va rfl rfl (nt hQ20 (KC.ret (KQ.thr hQ14 ?_)))
  have hE := Option.some.inj hF
  clear hF
  subst hE
  refine KQ.rets Tryz.results119 (RVs.cons (RV.tm rfl) RVs.nil) ?_
  exact ⟨_, rfl, A4, c5, rfl, hM⟩
 rw [if_neg (Xv hc)] at hF
 refine KC.skip (KQ.thn hQ14 ?_)
 refine sr fun Q21 hQ21 => ?_
 refine vm rfl rfl (vm rfl rfl (vm rfl rfl ?_))
 refine Xx hF fun y22 hx23 hF => ?_
 refine RL.call Tryz.func129 bd129 rfl rfl (Xbs _ v8 size9 _ hx23) fun v w24 hv => ?_
 obtain ⟨A26, c27, rfl, hN25⟩ := hv
 replace hM := hM.call hN25
 refine Xx hF fun y29 hx30 hF => ?_
 refine RL.call Tryz.func117 bd117 rfl rfl (KT _ _ _ wv1 _ _ (hM.lent [0, 1] rfl (by decide)) _ _ y22 (hM.rd (i := 2) rfl) (hM.offR [0, 1] rfl (i := 2) rfl rfl) _ hx30) fun v w31 hv => ?_
 obtain ⟨A33, c34, rfl, hN32⟩ := hv
 replace hM := hM.callL [0, 1] [2] rfl rfl (by decide) rfl hN32
 refine va rfl rfl (nt hQ21 (KC.ret ?_))
 have hE := Option.some.inj hF
 clear hF
 subst hE
 replace hM := hM.pick [1, 2] rfl (by decide)
 refine KQ.rets Tryz.results119 (RVs.cons (RV.tm rfl) RVs.nil) ?_
 exact ⟨_, rfl, A33, c34, rfl, hM⟩
theorem V2 (w : World) (A2 : Option Addr) (c3 : Nat) (s1 : List Int) (hr4 : Rd w A2 c3 1 s1.length (s1.flatMap (eI .u8))) (r : (List Int)) (hF : Z9 s1 = some r) :
  CallsR Tryz.prog 130 [.slice A2 (s1).length c3] w (fun v w' => ∃ (A0 : Option Addr) (c0 : Nat), v = .slice A0 (r).length c0 ∧ Mem w [] w' [.row A0 c0 5 1 r.length (r.flatMap (eI .u8))]) := by
 refine XJ Tryz.func130 rfl Tryz.ntmps130 rfl ?_
 have hM := Mem.init w
 unfold Z9 at hF
 refine sr fun Q5 hQ5 => ?_
 refine va rfl rfl (nt hQ5 ?_)
 refine KC.seqH fun Q6 hQ6 => ?_
 refine sr fun Q7 hQ7 => ?_
 refine vm rfl rfl (RL.val (O.sleqn sl156 rfl rfl) rfl (nt hQ7 ?_))
 refine KC.cond rfl (fun hc => ?_) (fun hc => ?_)
 ·have hz8 := Rd.none_nil (hM.inp hr4 Off.nil) (hc)
  have hF : (some ([])) = some r := by (rw [hz8] at hF; simpa [lim] using hF)
  refine sr fun Q9 hQ9 => ?_
  refine va rfl rfl (nt hQ9 (KC.ret (KQ.thr hQ6 ?_)))
  have hE := Option.some.inj hF
  clear hF
  subst hE
  replace hM := hM.nilrow 5 1
  refine KQ.rets Tryz.results130 (RVs.cons (RV.tm rfl) RVs.nil) ?_
  exact ⟨_, rfl, none, 0, rfl, hM⟩
 refine KC.skip (KQ.thn hQ6 ?_)
 refine sr fun Q10 hQ10 => ?_
 refine RL.eff (E.bsl0 hM sl156) rfl fun v w11 hv => ?_
 clear hM
 obtain ⟨A12, rfl, hM, hf⟩ := hv
 refine vm rfl rfl ?_
 refine XZ hF fun hq17 hF => ?_
 refine RL.eff (E.app (enc := (eI .u8)) (xs := ([] : List Int)) (ys := s1) (j := 0) hM rfl sl156 ze5 rfl rfl rfl rfl rfl (hM.inp hr4 Off.nil) (fun _ => One.all rfl) (of_decide_eq_true hq17)) rfl fun v w16 hv => ?_
 clear hM
 obtain ⟨A14, c15, rfl, hM, hf⟩ := hv
 refine va rfl rfl (nt hQ10 (KC.ret ?_))
 have hE := Option.some.inj hF
 clear hF
 subst hE
 refine KQ.rets Tryz.results130 (RVs.cons (RV.tm rfl) RVs.nil) ?_
 exact ⟨_, rfl, A14, c15, rfl, hM⟩
theorem XaD (w : World) (g2 : Nat) (tg7 : TypeId) (wv1 : Y9) (A4 : Option Addr) (c5 : Nat) (hL8 : Lent w [.box g2 tg7 [.slice A4 (wv1.f_b).length c5], .row A4 c5 5 1 (wv1.f_b).length ((wv1.f_b).flatMap (eI .u8))]) (r : (List Int) × Y9) (hF : Kl wv1 = some r) :
  CallsR Tryz.prog 120 [.pointer (some ⟨g2, 0, none⟩)] w (fun v w' => ∃ (A0 : Option Addr) (c0 : Nat) (A1 : Option Addr) (c1 : Nat), v = .slice A1 (r.1).length c1 ∧ Mem w [some g2, rblk A4 c5] w' [.box g2 tg7 [.slice A0 (r.2.f_b).length c0], .row A0 c0 5 1 r.2.f_b.length (r.2.f_b.flatMap (eI .u8)), .row A1 c1 5 1 r.1.length (r.1.flatMap (eI .u8))]) := by
 refine XJ Tryz.func120 rfl Tryz.ntmps120 rfl ?_
 have hM : Mem w [some g2, rblk A4 c5] w [.box g2 tg7 [.slice A4 (wv1.f_b).length c5], .row A4 c5 5 1 (wv1.f_b).length ((wv1.f_b).flatMap (eI .u8))] := Mem.lendN hL8
 unfold Kl at hF
 refine sr fun Q9 hQ9 => ?_
 refine va rfl rfl (nt hQ9 ?_)
 refine KC.seqH fun Q10 hQ10 => ?_
 refine sr fun Q11 hQ11 => ?_
 refine vm rfl rfl (RL.val (O.peqn Tryz.underlying190 rfl rfl) rfl (nt hQ11 (KC.condF rfl (KC.skip (KQ.thn hQ10 ?_)))))
 refine sr fun Q12 hQ12 => ?_
 refine vm rfl rfl (RL.val (O.nilp rfl) rfl (RL.val (O.fldA fl181_0 (by decide) rfl) rfl ?_))
 refine RL.val (O.load sc156 rfl (Cs.adds [0] ((hM.bx (i := 0) rfl)) rfl)) rfl ?_
 refine Xx hF fun y13 hx14 hF => ?_
 refine RL.call Tryz.func130 bd130 rfl rfl (V2 _ _ _ wv1.f_b (hM.rd (i := 1) rfl) _ hx14) fun v w15 hv => ?_
 obtain ⟨A17, c18, rfl, hN16⟩ := hv
 replace hM := hM.call hN16
 refine va rfl rfl (nt hQ12 (KC.ret ?_))
 have hE := Option.some.inj hF
 clear hF
 subst hE
 refine KQ.rets Tryz.results120 (RVs.cons (RV.tm rfl) RVs.nil) ?_
 exact ⟨_, rfl, A4, c5, A17, c18, rfl, hM⟩
theorem Vb (w : World) (kv1 : Xe) (r : (List Int)) (hF : Jh kv1 = some r) :
  CallsR Tryz.prog 106 [.agg (kv1.cs).toArray] w (fun v w' => ∃ (A0 : Option Addr) (c0 : Nat), v = .slice A0 (r).length c0 ∧ Mem w [] w' [.row A0 c0 5 1 r.length (r.flatMap (eI .u8))]) := by
 refine XJ Tryz.func106 rfl Tryz.ntmps106 rfl ?_
 have hM := Mem.init w
 unfold Jh at hF
 refine sr fun Q2 hQ2 => ?_
 refine RL.eff (E.box (vs := (kv1.cs)) hM rfl rfl) rfl fun v w4 hv => ?_
 clear hM
 obtain ⟨g3, rfl, hM, hf⟩ := hv
 refine va rfl rfl (nt hQ2 ?_)
 refine KC.seqH fun Q6 hQ6 => ?_
 refine sr fun Q7 hQ7 => ?_
 refine RL.val (O.loadN (cs := (kv1.cs)) ag42 rfl (Cs.addsN [] ((hM.bx (i := 0) rfl)) rfl)) rfl ?_
 refine Xx hF fun y8 hx9 hF => ?_
 refine RL.call Tryz.func37 bd37 rfl rfl (KK _ kv1 _ hx9) fun v w10 hv => ?_
 obtain ⟨rfl, hN11⟩ := hv
 replace hM := hM.call0 hN11
 refine RL.val (O.not rfl) rfl (nt hQ7 ?_)
 refine KC.cond rfl (fun hc => ?_) (fun hc => ?_)
 ·rw [if_pos hc] at hF
  refine sr fun Q12 hQ12 => ?_
  refine va rfl rfl (nt hQ12 (KC.ret (KQ.thr hQ6 ?_)))
  have hE := Option.some.inj hF
  clear hF
  subst hE
  replace hM := hM.nilrow 5 1
  replace hM := hM.pick [1] rfl (by decide)
  refine KQ.rets Tryz.results106 (RVs.cons (RV.tm rfl) RVs.nil) ?_
  exact ⟨_, rfl, none, 0, rfl, hM⟩
 rw [if_neg (Xv hc)] at hF
 refine KC.skip (KQ.thn hQ6 ?_)
 refine sr fun Q13 hQ13 => ?_
 refine RL.eff (E.alloc hM ze181) rfl fun v w15 hv => ?_
 clear hM
 obtain ⟨g14, rfl, hM, hf⟩ := hv
 refine nt hQ13 ?_
 refine sr fun Q17 hQ17 => ?_
 refine va rfl rfl (nt hQ17 ?_)
 refine KC.cut (fun a w22 => ∃ (version21 : Int), Kn 35 [(1, .pointer (some ⟨g3, 0, none⟩)), (3, .pointer (some ⟨g14, 0, none⟩)), (4, v8 version21)] a ∧ Mem w [] w22 [.box g3 42 (kv1.cs), .box g14 181 [.slice none 0 0]] ∧ ZX kv1 version21 = some r) ?_ ?_
 ·refine sr fun Q18 hQ18 => ?_
  refine RL.val (O.fldA fl42_0 (by decide) rfl) rfl ?_
  refine RL.val (O.fldA fl39_0 (by decide) rfl) rfl ?_
  refine RL.val (O.load sc4 rfl (Cs.adds [0, 0] ((hM.bx (i := 0) rfl)) rfl)) rfl (nt hQ18 ?_)
  refine KC.cond rfl (fun hc => ?_) (fun hc => ?_)
  ·rw [if_pos hc] at hF
   refine KC.region (va rfl rfl (RL.nil (KQ.Xy ?_)))
   exact fun a ha => ⟨6, ha.less (Xa rfl (Xa rfl (Xa rfl Xj))), hM, hF⟩
  rw [if_neg (Xv hc)] at hF
  refine KC.skip (KQ.Xy ?_)
  exact fun a ha => ⟨4, ha.less (Xa rfl (Xa rfl (Xa rfl Xj))), hM, hF⟩
 rintro a w22 ⟨version21, ha, hM, hF⟩
 refine KC.app ha ?_
 clear ha
 unfold ZX at hF
 refine sr fun Q23 hQ23 => ?_
 refine vm rfl rfl ?_
 refine RL.eff (E.bsl (enc := (eI .u8)) (xs := ([version21] : List Int)) hM sl156 ze5 rfl rfl rfl (fun _ => rfl) rfl (by kernel_rfl) rfl) rfl fun v w24 hv => ?_
 clear hM
 obtain ⟨A25, rfl, hM, hf⟩ := hv
 replace hM := hM.nilrow 5 1
 refine Xx hF fun y28 hx29 hF => ?_
 refine RL.call Tryz.func117 bd117 rfl rfl (KT _ _ _ (Y9.mk ([] : List Int)) _ _ (hM.lent [1, 3] rfl (by decide)) _ _ ([version21] : List Int) (hM.rd (i := 2) rfl) (hM.offR [1, 3] rfl (i := 2) rfl rfl) _ hx29) fun v w30 hv => ?_
 obtain ⟨A32, c33, rfl, hN31⟩ := hv
 replace hM := hM.callL [1, 3] [0, 2] rfl rfl (by decide) rfl hN31
 refine nt hQ23 ?_
 replace hM := hM.pick [0, 2, 3] rfl (by decide)
 refine sr fun Q35 hQ35 => ?_
 refine RL.val (O.fldA fl42_0 (by decide) rfl) rfl ?_
 refine RL.val (O.loadN (cs := (kv1.XL.cs)) ag39 rfl (Cs.addsN [0] ((hM.bx (i := 0) rfl)) rfl)) rfl ?_
 refine Xx hF fun y36 hx37 hF => ?_
 refine RL.call Tryz.func118 bd118 rfl rfl (VY _ kv1.XL _ hx37) fun v w38 hv => ?_
 obtain ⟨A40, c41, rfl, hN39⟩ := hv
 replace hM := hM.call hN39
 refine Xx hF fun y43 hx44 hF => ?_
 refine RL.call Tryz.func117 bd117 rfl rfl (KT _ _ _ y28.2 _ _ (hM.lent [1, 2] rfl (by decide)) _ _ y36 (hM.rd (i := 3) rfl) (hM.offR [1, 2] rfl (i := 3) rfl rfl) _ hx44) fun v w45 hv => ?_
 obtain ⟨A47, c48, rfl, hN46⟩ := hv
 replace hM := hM.callL [1, 2] [0, 3] rfl rfl (by decide) rfl hN46
 refine nt hQ35 ?_
 replace hM := hM.pick [0, 2, 3] rfl (by decide)
 refine sr fun Q50 hQ50 => ?_
 refine RL.val (O.fldA fl42_1 (by decide) rfl) rfl ?_
 refine RL.val (O.loadN (cs := (kv1.XN.cs)) ag39 rfl (Cs.addsN [17] ((hM.bx (i := 0) rfl)) rfl)) rfl ?_
 refine Xx hF fun y51 hx52 hF => ?_
 refine RL.call Tryz.func118 bd118 rfl rfl (VY _ kv1.XN _ hx52) fun v w53 hv => ?_
 obtain ⟨A55, c56, rfl, hN54⟩ := hv
 replace hM := hM.call hN54
 refine Xx hF fun y58 hx59 hF => ?_
 refine RL.call Tryz.func117 bd117 rfl rfl (KT _ _ _ y43.2 _ _ (hM.lent [1, 2] rfl (by decide)) _ _ y51 (hM.rd (i := 3) rfl) (hM.offR [1, 2] rfl (i := 3) rfl rfl) _ hx59) fun v w60 hv => ?_
 obtain ⟨A62, c63, rfl, hN61⟩ := hv
 replace hM := hM.callL [1, 2] [0, 3] rfl rfl (by decide) rfl hN61
 refine nt hQ50 ?_
 replace hM := hM.pick [0, 2, 3] rfl (by decide)
 refine sr fun Q65 hQ65 => ?_
 refine RL.val (O.fldA fl42_2 (by decide) rfl) rfl ?_
 refine RL.val (O.load sc5 rfl (Cs.adds [34] ((hM.bx (i := 0) rfl)) rfl)) rfl ?_
 refine RL.eff (E.bsl (enc := (eI .u8)) (xs := ([kv1.X2] : List Int)) hM sl156 ze5 rfl rfl rfl (fun _ => rfl) rfl (by kernel_rfl) rfl) rfl fun v w66 hv => ?_
 clear hM
 obtain ⟨A67, rfl, hM, hf⟩ := hv
 refine Xx hF fun y69 hx70 hF => ?_
 refine RL.call Tryz.func117 bd117 rfl rfl (KT _ _ _ y58.2 _ _ (hM.lent [1, 2] rfl (by decide)) _ _ ([kv1.X2] : List Int) (hM.rd (i := 3) rfl) (hM.offR [1, 2] rfl (i := 3) rfl rfl) _ hx70) fun v w71 hv => ?_
 obtain ⟨A73, c74, rfl, hN72⟩ := hv
 replace hM := hM.callL [1, 2] [0, 3] rfl rfl (by decide) rfl hN72
 refine nt hQ65 ?_
 replace hM := hM.pick [0, 2, 3] rfl (by decide)
 refine sr fun Q76 hQ76 => ?_
 refine RL.val (O.fldA fl42_3 (by decide) rfl) rfl ?_
 refine RL.val (O.load sc40 rfl (Cs.adds [35] ((hM.bx (i := 0) rfl)) rfl)) rfl (RL.val (O.conv un40 Tryz.underlying22 rfl) rfl ?_)
 refine Xx hF fun y77 hx78 hF => ?_
 refine RL.call Tryz.func119 bd119 rfl rfl (V5 _ _ _ y69.2 _ _ (hM.lent [1, 2] rfl (by decide)) (IntKind.u64.wrap kv1.X6) 2 _ hx78) fun v w79 hv => ?_
 obtain ⟨A81, c82, rfl, hN80⟩ := hv
 replace hM := hM.callL [1, 2] [0] rfl rfl (by decide) rfl hN80
 refine nt hQ76 ?_
 refine sr fun Q84 hQ84 => ?_
 refine RL.val (O.fldA fl42_4 (by decide) rfl) rfl ?_
 refine RL.val (O.load sc40 rfl (Cs.adds [36] ((hM.bx (i := 0) rfl)) rfl)) rfl (RL.val (O.conv un40 Tryz.underlying22 rfl) rfl ?_)
 refine Xx hF fun y85 hx86 hF => ?_
 refine RL.call Tryz.func119 bd119 rfl rfl (V5 _ _ _ y77.2 _ _ (hM.lent [1, 2] rfl (by decide)) (IntKind.u64.wrap kv1.X1) 2 _ hx86) fun v w87 hv => ?_
 obtain ⟨A89, c90, rfl, hN88⟩ := hv
 replace hM := hM.callL [1, 2] [0] rfl rfl (by decide) rfl hN88
 refine nt hQ84 ?_
 refine sr fun Q92 hQ92 => ?_
 refine Xx hF fun y93 hx94 hF => ?_
 refine RL.call Tryz.func120 bd120 rfl rfl (XaD _ _ _ y85.2 _ _ (hM.lent [1, 2] rfl (by decide)) _ hx94) fun v w95 hv => ?_
 obtain ⟨A97, c98, A100, c101, rfl, hN96⟩ := hv
 replace hM := hM.callL [1, 2] [0] rfl rfl (by decide) rfl hN96
 refine va rfl rfl (nt hQ92 (KC.ret ?_))
 have hE := Option.some.inj hF
 clear hF
 subst hE
 replace hM := hM.pick [3] rfl (by decide)
 refine KQ.rets Tryz.results106 (RVs.cons (RV.tm rfl) RVs.nil) ?_
 exact ⟨_, rfl, A100, c101, rfl, hM⟩
theorem XaX (w : World) (A2 : Option Addr) (c3 : Nat) (av1 : List Int) (hr4 : Rd w A2 c3 1 av1.length (av1.flatMap (eI .u8))) (A6 : Option Addr) (c7 : Nat) (b5 : List Int) (hr8 : Rd w A6 c7 1 b5.length (b5.flatMap (eI .u8))) (r : Int) (hF : Vf av1 b5 = some r) :
  CallsR Tryz.prog 105 [.slice A2 (av1).length c3, .slice A6 (b5).length c7] w (fun v w' => v = vI r ∧ Mem w [] w' []) := by
 refine XJ Tryz.func105 rfl Tryz.ntmps105 rfl ?_
 have hM := Mem.init w
 unfold Vf at hF
 refine sr fun Q9 hQ9 => ?_
 refine va rfl rfl (nt hQ9 ?_)
 refine sr fun Q10 hQ10 => ?_
 refine vm rfl rfl (vm rfl rfl (RL.val (O.bcmp (xs := av1) (ys := b5) Tryz.func116 (by kernel_rfl) (by kernel_rfl) (by kernel_rfl) (by kernel_rfl) rfl rfl (hM.inp hr4 Off.nil) (hM.inp hr8 Off.nil)) rfl ?_))
 refine va rfl rfl (nt hQ10 (KC.ret ?_))
 have hE := Option.some.inj hF
 clear hF
 subst hE
 refine KQ.rets Tryz.results105 (RVs.cons (RV.tm rfl) RVs.nil) ?_
 exact ⟨_, rfl, rfl, hM⟩
end Go.Proofs.YtkpnocgfhipidaaGreat
