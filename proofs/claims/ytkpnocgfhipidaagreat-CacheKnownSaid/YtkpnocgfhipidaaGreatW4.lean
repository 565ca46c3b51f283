/- Printed by a program of this claim: each call returns what the plain function of its name gives. -/
import Derived.Test.YtkpnocgfhipidaaGreatW1
import Derived.Test.YtkpnocgfhipidaaGreatW2
import Derived.Test.YtkpnocgfhipidaaGreatW3
set_option linter.unusedVariables false
set_option maxRecDepth 100000
set_option maxHeartbeats 40000000
namespace Go.Proofs.YtkpnocgfhipidaaGreat
open Go Go.Ox Go.RowKit
theorem VX (w : World) (g2 : Nat) (tg7 : TypeId) (t1 : Xw) (A4 : Option Addr) (c5 : Nat) (hL9 : Lent w [.box g2 tg7 [.slice A4 (t1.Xp).length c5, vI t1.XG], .row A4 c5 140 39 (t1.Xp).length ((t1.Xp).flatMap Xt)]) (kv8 : Xe) (r : Int × Xw) (hF : Z7 t1 kv8 = some r) :
  CallsR Tryz.prog 74 [.pointer (some ⟨g2, 0, none⟩), .agg (kv8.cs).toArray] w (fun v w' => ∃ (A0 : Option Addr) (c0 : Nat), v = vI r.1 ∧ Mem w [some g2, rblk A4 c5] w' [.box g2 tg7 [.slice A0 (r.2.Xp).length c0, vI r.2.XG], .row A0 c0 140 39 r.2.Xp.length (r.2.Xp.flatMap Xt)]) := by
 refine XJ Tryz.func74 rfl Tryz.ntmps74 rfl ?_
 have hM : Mem w [some g2, rblk A4 c5] w [.box g2 tg7 [.slice A4 (t1.Xp).length c5, vI t1.XG], .row A4 c5 140 39 (t1.Xp).length ((t1.Xp).flatMap Xt)] := Mem.lendN hL9
 unfold Z7 at hF
 refine sr fun Q10 hQ10 => ?_
 refine RL.eff (E.box (vs := (kv8.cs)) hM rfl rfl) rfl fun v w12 hv => ?_
 clear hM
 obtain ⟨g11, rfl, hM, hf⟩ := hv
 refine va rfl rfl (nt hQ10 ?_)
 refine sr fun Q14 hQ14 => ?_
 refine vm rfl rfl (RL.val (O.loadN (cs := (kv8.cs)) ag42 rfl (Cs.addsN [] ((hM.bx (i := 2) rfl)) rfl)) rfl ?_)
 refine Xx hF fun y15 hx16 hF => ?_
 refine RL.call Tryz.func94 bd94 rfl rfl (Ve _ _ _ t1 _ _ (hM.lent [0, 1] rfl (by decide)) kv8 _ hx16) fun v w17 hv => ?_
 obtain ⟨A19, c20, rfl, hN18⟩ := hv
 replace hM := hM.callL [0, 1] [2] rfl rfl (by decide) rfl hN18
 refine vm rfl rfl (RL.val (O.ext rfl rfl) rfl (RL.val (O.ext rfl rfl) rfl (va rfl rfl (va rfl rfl (nt hQ14 ?_)))))
 refine KC.seqH fun Q22 hQ22 => ?_
 refine KC.cut (fun a w29 => ∃ (t28 : Bool), Kn 27 [(5, vI y15.1), (25, vB t28)] a ∧ Mem w [some g2, rblk A4 c5] w29 [.row A19 c20 140 39 (y15.2.2.Xp).length ((y15.2.2.Xp).flatMap Xt), .box g2 tg7 [.slice A19 (y15.2.2.Xp).length c20, vI y15.2.2.XG]] ∧ Jo y15 t28 = some r) ?_ ?_
 ·refine KC.region (vm rfl rfl (RL.val (O.geq rfl rfl) rfl (vm rfl rfl ?_)))
  refine RL.bcase (t := 15) rfl (fun hc => ?_) (fun hc => ?_)
  ·rw [if_pos hc] at hF
   refine RL.gval rfl rfl (O.move rfl) rfl (RL.gval rfl rfl (O.nilp rfl) rfl (RL.gval rfl rfl (O.fldA fl119_0 (by decide) rfl) rfl ?_))
   refine RL.gval rfl rfl (O.load sc117 rfl (Cs.adds [0] ((hM.bx (i := 1) rfl)) rfl)) rfl (RL.gval rfl rfl (O.move rfl) rfl ?_)
   refine Xx hF fun xv25 hx24 hF => ?_
   have hA23 := Rd.atN (f := Xt) (s := 39) (fun _ => rfl) (by decide) (hM.rd (i := 2) rfl) hx24
   refine RL.gval rfl rfl (O.idxA sl117 (hA23) rfl rfl) rfl (RL.gval rfl rfl (O.fldA fl140_0 (by decide) rfl) rfl ?_)
   refine RL.gval rfl rfl (O.load sc4 rfl (Cs.adds [0] (hA23).cells rfl)) rfl (RL.gval rfl rfl (O.not rfl) rfl (RL.val (O.pickt rfl rfl) rfl (RL.nil (KQ.Xy ?_))))
   replace hM := hM.pick [2, 1] rfl (by decide)
   exact fun a ha => ⟨(!xv25.Ja), ha.less (Xa rfl (Xa rfl Xj)), hM, hF⟩
  rw [if_neg (Xv hc)] at hF
  refine RL.brun1 10 25 false (by kernel_rfl) ?_
  refine RL.nil (KQ.Xy ?_)
  replace hM := hM.pick [2, 1] rfl (by decide)
  exact fun a ha => ⟨false, ha.less (Xa rfl (Xa rfl Xj)), hM, hF⟩
 rintro a w29 ⟨t28, ha, hM, hF⟩
 refine KC.app ha ?_
 clear ha
 unfold Jo at hF
 refine KC.cond rfl (fun hc => ?_) (fun hc => ?_)
 ·rw [if_pos hc] at hF
  refine sr fun Q30 hQ30 => ?_
  refine va rfl rfl (nt hQ30 (KC.ret (KQ.thr hQ22 ?_)))
  have hE := Option.some.inj hF
  clear hF
  subst hE
  replace hM := hM.pick [1, 0] rfl (by decide)
  refine KQ.rets Tryz.results74 (RVs.cons (RV.tm rfl) RVs.nil) ?_
  exact ⟨_, rfl, A19, c20, rfl, hM⟩
 rw [if_neg (Xv hc)] at hF
 refine KC.skip (KQ.thn hQ22 ?_)
 refine sr fun Q31 hQ31 => ?_
 refine vm rfl rfl (va rfl rfl (nt hQ31 (KC.ret ?_)))
 have hE := Option.some.inj hF
 clear hF
 subst hE
 replace hM := hM.pick [1, 0] rfl (by decide)
 refine KQ.rets Tryz.results74 (RVs.cons (RV.tm rfl) RVs.nil) ?_
 exact ⟨_, rfl, A19, c20, rfl, hM⟩
theorem UT (w : World) (g2 : Nat) (tg7 : TypeId) (t1 : Xw) (A4 : Option Addr) (c5 : Nat) (hL9 : Lent w [.box g2 tg7 [.slice A4 (t1.Xp).length c5, vI t1.XG], .row A4 c5 140 39 (t1.Xp).length ((t1.Xp).flatMap Xt)]) (kv8 : Xe) (r : Int × Bool × Xw) (hF : Yt t1 kv8 = some r) :
  CallsR Tryz.prog 42 [.pointer (some ⟨g2, 0, none⟩), .agg (kv8.cs).toArray] w (fun v w' => ∃ (A0 : Option Addr) (c0 : Nat), v = .tuple #[v64 r.1, vB r.2.1] ∧ Mem w [some g2, rblk A4 c5] w' [.box g2 tg7 [.slice A0 (r.2.2.Xp).length c0, vI r.2.2.XG], .row A0 c0 140 39 r.2.2.Xp.length (r.2.2.Xp.flatMap Xt)]) := by
 refine XJ Tryz.func42 rfl Tryz.ntmps42 rfl ?_
 have hM : Mem w [some g2, rblk A4 c5] w [.box g2 tg7 [.slice A4 (t1.Xp).length c5, vI t1.XG], .row A4 c5 140 39 (t1.Xp).length ((t1.Xp).flatMap Xt)] := Mem.lendN hL9
 unfold Yt at hF
 refine sr fun Q10 hQ10 => ?_
 refine RL.eff (E.box (vs := (kv8.cs)) hM rfl rfl) rfl fun v w12 hv => ?_
 clear hM
 obtain ⟨g11, rfl, hM, hf⟩ := hv
 refine va rfl rfl (va rfl rfl (nt hQ10 ?_))
 refine sr fun Q14 hQ14 => ?_
 refine vm rfl rfl (RL.val (O.loadN (cs := (kv8.cs)) ag42 rfl (Cs.addsN [] ((hM.bx (i := 2) rfl)) rfl)) rfl ?_)
 refine Xx hF fun y15 hx16 hF => ?_
 refine RL.call Tryz.func74 bd74 rfl rfl (VX _ _ _ t1 _ _ (hM.lent [0, 1] rfl (by decide)) kv8 _ hx16) fun v w17 hv => ?_
 obtain ⟨A19, c20, rfl, hN18⟩ := hv
 replace hM := hM.callL [0, 1] [2] rfl rfl (by decide) rfl hN18
 refine va rfl rfl (nt hQ14 ?_)
 refine KC.seqH fun Q22 hQ22 => ?_
 refine sr fun Q23 hQ23 => ?_
 refine vm rfl rfl (RL.val (O.lss rfl rfl) rfl (nt hQ23 ?_))
 refine KC.cond rfl (fun hc => ?_) (fun hc => ?_)
 ·rw [if_pos hc] at hF
  refine sr fun Q24 hQ24 => ?_
  refine va rfl rfl (va rfl rfl (nt hQ24 (KC.ret (KQ.thr hQ22 ?_))))
  have hE := Option.some.inj hF
  clear hF
  subst hE
  replace hM := hM.pick [1, 2] rfl (by decide)
  refine KQ.rets Tryz.results42 (RVs.cons (RV.tm rfl) (RVs.cons (RV.tm rfl) RVs.nil)) ?_
  exact ⟨_, rfl, A19, c20, rfl, hM⟩
 rw [if_neg (Xv hc)] at hF
 refine KC.skip (KQ.thn hQ22 ?_)
 refine sr fun Q25 hQ25 => ?_
 refine vm rfl rfl (RL.val (O.nilp rfl) rfl (RL.val (O.fldA fl119_0 (by decide) rfl) rfl ?_))
 refine RL.val (O.load sc117 rfl (Cs.adds [0] ((hM.bx (i := 1) rfl)) rfl)) rfl (vm rfl rfl ?_)
 refine Xx hF fun xv28 hx27 hF => ?_
 have hA26 := Rd.atN (f := Xt) (s := 39) (fun _ => rfl) (by decide) (hM.rd (i := 2) rfl) hx27
 refine RL.val (O.idxA sl117 (hA26) rfl rfl) rfl (RL.val (O.fldA fl140_2 (by decide) rfl) rfl ?_)
 refine RL.val (O.load sc22 rfl (Cs.adds [38] (hA26).cells rfl)) rfl (va rfl rfl (va rfl rfl (nt hQ25 (KC.ret ?_))))
 have hE := Option.some.inj hF
 clear hF
 subst hE
 replace hM := hM.pick [1, 2] rfl (by decide)
 refine KQ.rets Tryz.results42 (RVs.cons (RV.tm rfl) (RVs.cons (RV.tm rfl) RVs.nil)) ?_
 exact ⟨_, rfl, A19, c20, rfl, hM⟩
theorem Xan (w : World) (g2 : Nat) (tg7 : TypeId) (t1 : Xw) (A4 : Option Addr) (c5 : Nat) (hL9 : Lent w [.box g2 tg7 [.slice A4 (t1.Xp).length c5, vI t1.XG], .row A4 c5 140 39 (t1.Xp).length ((t1.Xp).flatMap Xt)]) (kv8 : Xe) (r : Bool × Xw) (hF : Jn t1 kv8 = some r) :
  CallsR Tryz.prog 80 [.pointer (some ⟨g2, 0, none⟩), .agg (kv8.cs).toArray] w (fun v w' => ∃ (A0 : Option Addr) (c0 : Nat), v = vB r.1 ∧ Mem w [some g2, rblk A4 c5] w' [.box g2 tg7 [.slice A0 (r.2.Xp).length c0, vI r.2.XG], .row A0 c0 140 39 r.2.Xp.length (r.2.Xp.flatMap Xt)]) := by
 refine XJ Tryz.func80 rfl Tryz.ntmps80 rfl ?_
 have hM : Mem w [some g2, rblk A4 c5] w [.box g2 tg7 [.slice A4 (t1.Xp).length c5, vI t1.XG], .row A4 c5 140 39 (t1.Xp).length ((t1.Xp).flatMap Xt)] := Mem.lendN hL9
 unfold Jn at hF
 refine sr fun Q10 hQ10 => ?_
 refine RL.eff (E.box (vs := (kv8.cs)) hM rfl rfl) rfl fun v w12 hv => ?_
 clear hM
 obtain ⟨g11, rfl, hM, hf⟩ := hv
 refine va rfl rfl (nt hQ10 ?_)
 refine sr fun Q14 hQ14 => ?_
 refine vm rfl rfl (RL.val (O.loadN (cs := (kv8.cs)) ag42 rfl (Cs.addsN [] ((hM.bx (i := 2) rfl)) rfl)) rfl ?_)
 refine Xx hF fun y15 hx16 hF => ?_
 refine RL.call Tryz.func74 bd74 rfl rfl (VX _ _ _ t1 _ _ (hM.lent [0, 1] rfl (by decide)) kv8 _ hx16) fun v w17 hv => ?_
 obtain ⟨A19, c20, rfl, hN18⟩ := hv
 replace hM := hM.callL [0, 1] [2] rfl rfl (by decide) rfl hN18
 refine va rfl rfl (nt hQ14 ?_)
 refine KC.seqH fun Q22 hQ22 => ?_
 refine sr fun Q23 hQ23 => ?_
 refine vm rfl rfl (RL.val (O.lss rfl rfl) rfl (nt hQ23 ?_))
 refine KC.cond rfl (fun hc => ?_) (fun hc => ?_)
 ·rw [if_pos hc] at hF
  refine sr fun Q24 hQ24 => ?_
  refine va rfl rfl (nt hQ24 (KC.ret (KQ.thr hQ22 ?_)))
  have hE := Option.some.inj hF
  clear hF
  subst hE
  replace hM := hM.pick [1, 2] rfl (by decide)
  refine KQ.rets Tryz.results80 (RVs.cons (RV.tm rfl) RVs.nil) ?_
  exact ⟨_, rfl, A19, c20, rfl, hM⟩
 rw [if_neg (Xv hc)] at hF
 refine KC.skip (KQ.thn hQ22 ?_)
 refine sr fun Q25 hQ25 => ?_
 refine vm rfl rfl (RL.val (O.nilp rfl) rfl (RL.val (O.fldA fl119_0 (by decide) rfl) rfl ?_))
 refine RL.val (O.load sc117 rfl (Cs.adds [0] ((hM.bx (i := 1) rfl)) rfl)) rfl (RL.val (O.len sl117 rfl) rfl (va rfl rfl (nt hQ25 ?_)))
 refine KC.seqH fun Q26 hQ26 => ?_
 replace hM := hM.drewN 1
 refine KC.draw [] [13, 16] [13, 16] [0, 1, 2, 4, 5, 7, 8, 9, 11, 14, 15] (.ofList [0, 1, 2, 3, 4, 5, 6, 7, 8, 9, 10, 11, 12, 13, 14, 15, 16]) moP (by kernel_rfl) ?_
 refine RD.p rfl rfl rfl rfl (fun w' => O.move rfl) ?_
 refine RD.p rfl rfl rfl rfl (fun w' => O.nilp rfl) ?_
 refine RD.p rfl rfl rfl rfl (fun w' => O.fldA fl119_0 (by decide) rfl) ?_
 refine RD.q rfl rfl rfl rfl (fun w' hf => O.load sc117 rfl (Cs.adds [0] ((hM.bx (i := 1) rfl).fut hf) rfl)) ?_
 refine RD.p rfl rfl rfl rfl (fun w' => O.move rfl) ?_
 refine RD.p rfl rfl rfl rfl (fun w' => O.move rfl) ?_
 refine RD.q rfl rfl rfl rfl (fun w' hf => O.bld (cs := (vB false :: vB false :: (a16 (List.replicate 16 0) ++ (vB false :: (a16 (List.replicate 16 0) ++ [v8 0, v16 0, v16 0, v64 0]))))) bt140 rfl (by kernel_rfl)) ?_
 refine RD.p rfl rfl rfl rfl (fun w' => O.move rfl) ?_
 refine RD.p rfl rfl rfl rfl (fun w' => O.nilp rfl) ?_
 refine RD.p rfl rfl rfl rfl (fun w' => O.fldA fl119_1 (by decide) rfl) ?_
 refine RD.q rfl rfl rfl rfl (fun w' hf => O.load sc3 rfl (Cs.adds [1] ((hM.bx (i := 1) rfl).fut hf) rfl)) ?_
 refine RD.p rfl rfl rfl rfl (fun w' => O.sub rfl rfl) ?_
 refine Xx hF fun xv29 hx28 hF => ?_
 have hA27 := Rd.atN (f := Xt) (s := 39) (fun _ => rfl) (by decide) (hM.rd (i := 2) rfl) hx28
 refine RD.q rfl rfl rfl rfl (fun w' hf => O.idxA sl117 (hA27.fut hf) rfl rfl) ?_
 refine RD.meffs rfl rfl rfl (E.stR (enc := Xt) (j := 2) (off := 0) (vs := (vB false :: vB false :: (a16 (List.replicate 16 0) ++ (vB false :: (a16 (List.replicate 16 0) ++ [v8 0, v16 0, v16 0, v64 0]))))) (x' := (Xm.mk false (Xe.mk (Xd.mk false (List.replicate 16 0)) (Xd.mk false (List.replicate 16 0)) 0 0 0) 0)) hM rfl (fun _ => rfl) hx28 sz140 rfl (addsR_eq [] rfl) rfl rfl (One.all rfl) rfl rfl) fun w30 hM1 => ?_
 clear hM
 obtain ⟨hM, hn31⟩ := hM1
 refine RD.reslot (t := 25) rfl hn31 ?_
 replace hM := hM.rebox (i := 1) (cs' := [.slice A19 ((y15.2.Xp.set (y15.1 : Int).toNat (Xm.mk false (Xe.mk (Xd.mk false (List.replicate 16 0)) (Xd.mk false (List.replicate 16 0)) 0 0 0) 0))).length c20, vI y15.2.XG]) rfl (by rw [← hn31])
 refine RD.p rfl rfl rfl rfl (fun w' => O.nilp rfl) ?_
 refine RD.p rfl rfl rfl rfl (fun w' => O.fldA fl119_1 (by decide) rfl) ?_
 refine RD.meffs rfl rfl rfl (E.stB (j := 1) (off := 1) (vs := [vI (IntKind.i64.wrap (y15.2.XG - 1))]) (cs' := [.slice A19 ((y15.2.Xp.set (y15.1 : Int).toNat (Xm.mk false (Xe.mk (Xd.mk false (List.replicate 16 0)) (Xd.mk false (List.replicate 16 0)) 0 0 0) 0))).length c20, vI (IntKind.i64.wrap (y15.2.XG - 1))]) hM rfl sz3 rfl (XX [1] rfl) rfl rfl (One.all rfl) rfl rfl) fun w32 hM1 => ?_
 clear hM
 have hM := hM1
 clear hM1
 refine RD.nil (KQ.thn hQ26 ?_)
 refine KC.cut (fun a w162 => ∃ (A158 : Option Addr) (c159 : Nat) (p160 : List Xm) (p161 : Int), Kn 80 [] a ∧ Mem w [some g2, rblk A4 c5] w162 [.row A158 c159 140 39 (p160).length ((p160).flatMap Xt), .box g2 tg7 [.slice A158 (p160).length c159, vI p161]] ∧ Jd p160 p161 = some r) ?_ ?_
 ·refine sr fun Q33 hQ33 => ?_
  refine vm rfl rfl (RL.val (O.sub rfl rfl) rfl (vm rfl rfl (nt hQ33 (KC.block ?_))))
  refine KC.loop (fun k120 a w118 => ∃ (A113 : Option Addr) (c114 : Nat) (p115 : List Xm) (p116 t117 : Int), Kn 80 [(0, .pointer (some ⟨g2, 0, none⟩)), (5, vI y15.1), (6, vI (y15.2.Xp.length : Int)), (38, vI (IntKind.i64.wrap ((y15.2.Xp.length : Int) - 1))), (39, vI t117)] a ∧ Mem w [some g2, rblk A4 c5] w118 [.row A113 c114 140 39 (p115).length ((p115).flatMap Xt), .box g2 tg7 [.slice A113 (p115).length c114, vI p116]] ∧ ZD y15 k120 p115 p116 t117 = some r) ?_ ?_
  ·replace hM := hM.pick [2, 1] rfl (by decide)
   exact fun a ha => ⟨fuel0, A19, c20, (y15.2.Xp.set (y15.1 : Int).toNat (Xm.mk false (Xe.mk (Xd.mk false (List.replicate 16 0)) (Xd.mk false (List.replicate 16 0)) 0 0 0) 0)), (IntKind.i64.wrap (y15.2.XG - 1)), 0, ha.less (Xa rfl (Xa rfl (Xa rfl (Xa rfl (Xa rfl Xj))))), hM, hF⟩
  rintro k120 a w118 ⟨A113, c114, p115, p116, t117, ha, hM, hF⟩
  refine KC.app ha ?_
  clear ha
  cases k120 with
  | zero => exact (Yl hF).elim
  | succ k120 =>
  have hF : Jg (ZD y15 k120) y15 p115 p116 t117 = some r := hF
  unfold Jg at hF
  refine sr fun Q121 hQ121 => ?_
  refine RL.val (O.lss rfl rfl) rfl (nt hQ121 ?_)
  refine KC.seqH fun Q122 hQ122 => ?_
  refine KC.cond rfl (fun hc => ?_) (fun hc => ?_)
  ·rw [if_pos hc] at hF
   refine KC.skip (KQ.thn hQ122 ?_)
   refine KC.seqH fun Q123 hQ123 => ?_
   refine KC.block ?_
   refine sr fun Q124 hQ124 => ?_
   refine vm rfl rfl (va rfl rfl (nt hQ124 ?_))
   refine sr fun Q125 hQ125 => ?_
   refine vm rfl rfl (RL.val (O.add rfl rfl) rfl (vm rfl rfl (RL.val (O.add rfl rfl) rfl (vm rfl rfl ?_))))
   refine XZ hF fun hq126 hF => ?_
   refine RL.val (O.rem rfl rfl (of_decide_eq_true hq126)) rfl (va rfl rfl (nt hQ125 ?_))
   refine sr fun Q127 hQ127 => ?_
   refine vm rfl rfl (RL.val (O.nilp rfl) rfl (RL.val (O.fldA fl119_0 (by decide) rfl) rfl ?_))
   refine RL.val (O.load sc117 rfl (Cs.adds [0] ((hM.bx (i := 1) rfl)) rfl)) rfl (vm rfl rfl ?_)
   refine Xx hF fun xv130 hx129 hF => ?_
   have hA128 := Rd.atN (f := Xt) (s := 39) (fun _ => rfl) (by decide) (hM.rd (i := 0) rfl) hx129
   refine RL.val (O.idxA sl117 (hA128) rfl rfl) rfl (RL.val (O.loadN (cs := (xv130.cs)) ag140 rfl (hA128).cells) rfl ?_)
   refine RL.eff (E.alloc hM ze140) rfl fun v w132 hv => ?_
   clear hM
   obtain ⟨g131, rfl, hM, hf⟩ := hv
   refine RL.effs (E.stB (j := 2) (off := 0) (vs := (xv130.cs)) (cs' := (xv130.cs)) hM rfl sz140 rfl (XX [] rfl) rfl rfl (One.all rfl) rfl rfl) fun w134 hM1 => ?_
   clear hM
   have hM := hM1
   clear hM1
   refine nt hQ127 ?_
   refine KC.seqH fun Q135 hQ135 => ?_
   refine sr fun Q136 hQ136 => ?_
   refine RL.val (O.fldA fl140_0 (by decide) rfl) rfl ?_
   refine RL.val (O.load sc4 rfl (Cs.adds [0] ((hM.bx (i := 2) rfl)) rfl)) rfl (RL.val (O.not rfl) rfl (nt hQ136 ?_))
   refine KC.cond rfl (fun hc => ?_) (fun hc => ?_)
   ·rw [if_pos hc] at hF
    refine KC.exit (KQ.thx hQ135 (KQ.blk_y rfl (KQ.thx hQ123 (KQ.then_x (KQ.blk_x (KQ.Xy ?_))))))
    replace hM := hM.pick [0, 1] rfl (by decide)
    exact fun a ha => ⟨A113, c114, p115, p116, ha.less Xj, hM, hF⟩
   rw [if_neg (Xv hc)] at hF
   refine KC.skip (KQ.thn hQ135 ?_)
   refine sr fun Q137 hQ137 => ?_
   refine vm rfl rfl (RL.val (O.nilp rfl) rfl (RL.val (O.fldA fl119_0 (by decide) rfl) rfl ?_))
   refine RL.val (O.load sc117 rfl (Cs.adds [0] ((hM.bx (i := 1) rfl)) rfl)) rfl (vm rfl rfl (RL.val (O.bld (cs := (vB false :: vB false :: (a16 (List.replicate 16 0) ++ (vB false :: (a16 (List.replicate 16 0) ++ [v8 0, v16 0, v16 0, v64 0]))))) bt140 rfl (by kernel_rfl)) rfl ?_))
   refine Xx hF fun xv140 hx139 hF => ?_
   have hA138 := Rd.atN (f := Xt) (s := 39) (fun _ => rfl) (by decide) (hM.rd (i := 0) rfl) hx139
   refine RL.val (O.idxA sl117 (hA138) rfl rfl) rfl ?_
   refine RL.effs (E.stR (enc := Xt) (j := 0) (off := 0) (vs := (vB false :: vB false :: (a16 (List.replicate 16 0) ++ (vB false :: (a16 (List.replicate 16 0) ++ [v8 0, v16 0, v16 0, v64 0]))))) (x' := (Xm.mk false (Xe.mk (Xd.mk false (List.replicate 16 0)) (Xd.mk false (List.replicate 16 0)) 0 0 0) 0)) hM rfl (fun _ => rfl) hx139 sz140 rfl (addsR_eq [] rfl) rfl rfl (One.all rfl) rfl rfl) fun w141 hM1 => ?_
   clear hM
   obtain ⟨hM, hn142⟩ := hM1
   refine RL.reslot (t := 61) rfl hn142 ?_
   replace hM := hM.rebox (i := 1) (cs' := [.slice A113 ((p115.set ((Int.tmod (IntKind.i64.wrap ((IntKind.i64.wrap (y15.1 + 1)) + t117)) (y15.2.Xp.length : Int)) : Int).toNat (Xm.mk false (Xe.mk (Xd.mk false (List.replicate 16 0)) (Xd.mk false (List.replicate 16 0)) 0 0 0) 0))).length c114, vI p116]) rfl (by rw [← hn142])
   refine nt hQ137 ?_
   refine sr fun Q143 hQ143 => ?_
   refine vm rfl rfl (RL.val (O.fldA fl140_1 (by decide) rfl) rfl ?_)
   refine RL.val (O.loadN (cs := (xv130.Xo.cs)) ag42 rfl (Cs.addsN [1] ((hM.bx (i := 2) rfl)) rfl)) rfl ?_
   refine Xx hF fun y144 hx145 hF => ?_
   refine RL.call Tryz.func94 bd94 rfl rfl (Ve _ _ _ (Xw.mk (p115.set ((Int.tmod (IntKind.i64.wrap ((IntKind.i64.wrap (y15.1 + 1)) + t117)) (y15.2.Xp.length : Int)) : Int).toNat (Xm.mk false (Xe.mk (Xd.mk false (List.replicate 16 0)) (Xd.mk false (List.replicate 16 0)) 0 0 0) 0)) p116) _ _ (hM.lent [1, 0] rfl (by decide)) xv130.Xo _ hx145) fun v w146 hv => ?_
   obtain ⟨A148, c149, rfl, hN147⟩ := hv
   replace hM := hM.callL [1, 0] [2] rfl rfl (by decide) rfl hN147
   refine vm rfl rfl (RL.val (O.ext rfl rfl) rfl (RL.val (O.ext rfl rfl) rfl (va rfl rfl (va rfl rfl (nt hQ143 ?_)))))
   replace hM := hM.drewN 1
   refine KC.draw [] [7] [7] [0, 1, 2, 4] (.ofList [0, 1, 2, 3, 4, 5, 6, 7]) moP (by kernel_rfl) ?_
   refine RD.p rfl rfl rfl rfl (fun w' => O.move rfl) ?_
   refine RD.p rfl rfl rfl rfl (fun w' => O.nilp rfl) ?_
   refine RD.p rfl rfl rfl rfl (fun w' => O.fldA fl119_0 (by decide) rfl) ?_
   refine RD.q rfl rfl rfl rfl (fun w' hf => O.load sc117 rfl (Cs.adds [0] ((hM.bx (i := 1) rfl).fut hf) rfl)) ?_
   refine RD.p rfl rfl rfl rfl (fun w' => O.move rfl) ?_
   refine RD.q rfl rfl rfl rfl (fun w' hf => O.loadN (cs := (xv130.cs)) ag140 rfl (Cs.addsN [] ((hM.bx (i := 0) rfl).fut hf) rfl)) ?_
   refine Xx hF fun xv153 hx152 hF => ?_
   have hA151 := Rd.atN (f := Xt) (s := 39) (fun _ => rfl) (by decide) (hM.rd (i := 2) rfl) hx152
   refine RD.q rfl rfl rfl rfl (fun w' hf => O.idxA sl117 (hA151.fut hf) rfl rfl) ?_
   refine RD.meffs rfl rfl rfl (E.stR (enc := Xt) (j := 2) (off := 0) (vs := (xv130.cs)) (x' := xv130) hM rfl (fun _ => rfl) hx152 sz140 rfl (addsR_eq [] rfl) rfl rfl (One.all rfl) rfl rfl) fun w154 hM1 => ?_
   clear hM
   obtain ⟨hM, hn155⟩ := hM1
   refine RD.reslot (t := 75) rfl hn155 ?_
   replace hM := hM.rebox (i := 1) (cs' := [.slice A148 ((y144.2.2.Xp.set (y144.1 : Int).toNat xv130)).length c149, vI y144.2.2.XG]) rfl (by rw [← hn155])
   refine RD.nil (KQ.blk_n (KQ.thn hQ123 (KC.region (RL.val (O.add rfl rfl) rfl (vm rfl rfl (RL.nil ?_))))))
   refine KQ.Xy ?_
   replace hM := hM.pick [2, 1] rfl (by decide)
   exact fun a ha => ⟨k120, Nat.lt_succ_self k120, A148, c149, (y144.2.2.Xp.set (y144.1 : Int).toNat xv130), y144.2.2.XG, (IntKind.i64.wrap (t117 + 1)), ha.less (Xa rfl (Xa rfl (Xa rfl (Xa rfl (Xa rfl Xj))))), hM, hF⟩
  rw [if_neg (Xv hc)] at hF
  refine KC.exit (KQ.thx hQ122 (KQ.then_x (KQ.blk_x (KQ.Xy ?_))))
  exact fun a ha => ⟨A113, c114, p115, p116, ha.less Xj, hM, hF⟩
 rintro a w162 ⟨A158, c159, p160, p161, ha, hM, hF⟩
 refine KC.app ha ?_
 clear ha
 unfold Jd at hF
 refine sr fun Q163 hQ163 => ?_
 refine va rfl rfl (nt hQ163 (KC.ret ?_))
 have hE := Option.some.inj hF
 clear hF
 subst hE
 replace hM := hM.pick [1, 0] rfl (by decide)
 refine KQ.rets Tryz.results80 (RVs.cons (RV.tm rfl) RVs.nil) ?_
 exact ⟨_, rfl, A158, c159, rfl, hM⟩
theorem V1 (w : World) (g2 : Nat) (tg7 : TypeId) (t1 : Xw) (A4 : Option Addr) (c5 : Nat) (hL10 : Lent w [.box g2 tg7 [.slice A4 (t1.Xp).length c5, vI t1.XG], .row A4 c5 140 39 (t1.Xp).length ((t1.Xp).flatMap Xt)]) (kv8 : Xe) (nv9 : Int) (r : Int × Xw) (hF : YX t1 kv8 nv9 = some r) :
  CallsR Tryz.prog 77 [.pointer (some ⟨g2, 0, none⟩), .agg (kv8.cs).toArray, v64 nv9] w (fun v w' => ∃ (A0 : Option Addr) (c0 : Nat), v = vI r.1 ∧ Mem w [some g2, rblk A4 c5] w' [.box g2 tg7 [.slice A0 (r.2.Xp).length c0, vI r.2.XG], .row A0 c0 140 39 r.2.Xp.length (r.2.Xp.flatMap Xt)]) := by
 refine XJ Tryz.func77 rfl Tryz.ntmps77 rfl ?_
 have hM : Mem w [some g2, rblk A4 c5] w [.box g2 tg7 [.slice A4 (t1.Xp).length c5, vI t1.XG], .row A4 c5 140 39 (t1.Xp).length ((t1.Xp).flatMap Xt)] := Mem.lendN hL10
 unfold YX at hF
 refine sr fun Q11 hQ11 => ?_
 refine RL.eff (E.box (vs := (kv8.cs)) hM rfl rfl) rfl fun v w13 hv => ?_
 clear hM
 obtain ⟨g12, rfl, hM, hf⟩ := hv
 refine va rfl rfl (nt hQ11 ?_)
 refine sr fun Q15 hQ15 => ?_
 refine vm rfl rfl (RL.val (O.loadN (cs := (kv8.cs)) ag42 rfl (Cs.addsN [] ((hM.bx (i := 2) rfl)) rfl)) rfl ?_)
 refine Xx hF fun y16 hx17 hF => ?_
 refine RL.call Tryz.func94 bd94 rfl rfl (Ve _ _ _ t1 _ _ (hM.lent [0, 1] rfl (by decide)) kv8 _ hx17) fun v w18 hv => ?_
 obtain ⟨A20, c21, rfl, hN19⟩ := hv
 replace hM := hM.callL [0, 1] [2] rfl rfl (by decide) rfl hN19
 refine vm rfl rfl (RL.val (O.ext rfl rfl) rfl (RL.val (O.ext rfl rfl) rfl (va rfl rfl (va rfl rfl (nt hQ15 ?_)))))
 refine KC.cut (fun a w41 => ∃ (p39 : Int), Kn 51 [(0, .pointer (some ⟨g2, 0, none⟩)), (2, v64 nv9), (4, .pointer (some ⟨g12, 0, none⟩)), (7, vI y16.1)] a ∧ Mem w [some g2, rblk A4 c5] w41 [.row A20 c21 140 39 (y16.2.2.Xp).length ((y16.2.2.Xp).flatMap Xt), .box g2 tg7 [.slice A20 (y16.2.2.Xp).length c21, vI p39], .box g12 42 (kv8.cs)] ∧ Jl kv8 nv9 y16 p39 = some r) ?_ ?_
 ·refine KC.block ?_
  refine sr fun Q23 hQ23 => ?_
  refine vm rfl rfl (RL.val (O.peqn Tryz.underlying63 rfl rfl) rfl (va rfl rfl (nt hQ23 (KC.condF rfl ?_))))
  refine sr fun Q24 hQ24 => ?_
  refine RL.val (O.loadN (cs := (kv8.cs)) ag42 rfl (Cs.addsN [] ((hM.bx (i := 0) rfl)) rfl)) rfl ?_
  refine Xx hF fun y25 hx26 hF => ?_
  refine RL.call Tryz.func37 bd37 rfl rfl (KK _ kv8 _ hx26) fun v w27 hv => ?_
  obtain ⟨rfl, hN28⟩ := hv
  replace hM := hM.call0 hN28
  refine RL.val (O.not rfl) rfl (va rfl rfl (nt hQ24 ?_))
  refine KC.cond rfl (fun hc => ?_) (fun hc => ?_)
  ·rw [if_pos hc] at hF
   refine sr fun Q29 hQ29 => ?_
   refine va rfl rfl (nt hQ29 (KC.ret (KQ.blk_r (KQ.then_r ?_))))
   have hE := Option.some.inj hF
   clear hF
   subst hE
   replace hM := hM.pick [1, 2] rfl (by decide)
   refine KQ.rets Tryz.results77 (RVs.cons (RV.tm rfl) RVs.nil) ?_
   exact ⟨_, rfl, A20, c21, rfl, hM⟩
  rw [if_neg (Xv hc)] at hF
  refine sr fun Q30 hQ30 => ?_
  refine vm rfl rfl (RL.val (O.lss rfl rfl) rfl (va rfl rfl (nt hQ30 ?_)))
  refine KC.cond rfl (fun hc => ?_) (fun hc => ?_)
  ·rw [if_pos hc] at hF
   refine sr fun Q31 hQ31 => ?_
   refine va rfl rfl (nt hQ31 (KC.ret (KQ.blk_r (KQ.then_r ?_))))
   have hE := Option.some.inj hF
   clear hF
   subst hE
   replace hM := hM.pick [1, 2] rfl (by decide)
   refine KQ.rets Tryz.results77 (RVs.cons (RV.tm rfl) RVs.nil) ?_
   exact ⟨_, rfl, A20, c21, rfl, hM⟩
  rw [if_neg (Xv hc)] at hF
  refine sr fun Q32 hQ32 => ?_
  refine vm rfl rfl (RL.val (O.nilp rfl) rfl (RL.val (O.fldA fl119_0 (by decide) rfl) rfl ?_))
  refine RL.val (O.load sc117 rfl (Cs.adds [0] ((hM.bx (i := 1) rfl)) rfl)) rfl (vm rfl rfl ?_)
  refine Xx hF fun xv35 hx34 hF => ?_
  have hA33 := Rd.atN (f := Xt) (s := 39) (fun _ => rfl) (by decide) (hM.rd (i := 2) rfl) hx34
  refine RL.val (O.idxA sl117 (hA33) rfl rfl) rfl (RL.val (O.fldA fl140_0 (by decide) rfl) rfl ?_)
  refine RL.val (O.load sc4 rfl (Cs.adds [0] (hA33).cells rfl)) rfl (RL.val (O.not rfl) rfl (va rfl rfl (nt hQ32 ?_)))
  refine KC.cond rfl (fun hc => ?_) (fun hc => ?_)
  ·rw [if_pos hc] at hF
   refine KC.region (vm rfl rfl (RL.val (O.nilp rfl) rfl (RL.val (O.fldA fl119_1 (by decide) rfl) rfl ?_)))
   refine RL.val (O.load sc3 rfl (Cs.adds [1] ((hM.bx (i := 1) rfl)) rfl)) rfl (RL.val (O.add rfl rfl) rfl (RL.val (O.nilp rfl) rfl (RL.val (O.fldA fl119_1 (by decide) rfl) rfl ?_)))
   refine RL.effs (E.stB (j := 1) (off := 1) (vs := [vI (IntKind.i64.wrap (y16.2.2.XG + 1))]) (cs' := [.slice A20 (y16.2.2.Xp).length c21, vI (IntKind.i64.wrap (y16.2.2.XG + 1))]) hM rfl sz3 rfl (XX [1] rfl) rfl rfl (One.all rfl) rfl rfl) fun w36 hM1 => ?_
   clear hM
   have hM := hM1
   clear hM1
   refine RL.nil (KQ.blk_n (KQ.Xy ?_))
   replace hM := hM.pick [2, 1, 0] rfl (by decide)
   exact fun a ha => ⟨(IntKind.i64.wrap (y16.2.2.XG + 1)), ha.less (Xa rfl (Xa rfl (Xa rfl (Xa rfl Xj)))), hM, hF⟩
  rw [if_neg (Xv hc)] at hF
  refine KC.skip (KQ.blk_n (KQ.Xy ?_))
  replace hM := hM.pick [2, 1, 0] rfl (by decide)
  exact fun a ha => ⟨y16.2.2.XG, ha.less (Xa rfl (Xa rfl (Xa rfl (Xa rfl Xj)))), hM, hF⟩
 rintro a w41 ⟨p39, ha, hM, hF⟩
 refine KC.app ha ?_
 clear ha
 unfold Jl at hF
 refine KC.seqH fun Q42 hQ42 => ?_
 replace hM := hM.drewN 1
 refine KC.draw [] [9] [9] [0, 1, 2, 4, 6] (.ofList [0, 1, 2, 3, 4, 5, 6, 7, 8, 9]) moP (by kernel_rfl) ?_
 refine RD.p rfl rfl rfl rfl (fun w' => O.move rfl) ?_
 refine RD.p rfl rfl rfl rfl (fun w' => O.nilp rfl) ?_
 refine RD.p rfl rfl rfl rfl (fun w' => O.fldA fl119_0 (by decide) rfl) ?_
 refine RD.q rfl rfl rfl rfl (fun w' hf => O.load sc117 rfl (Cs.adds [0] ((hM.bx (i := 1) rfl).fut hf) rfl)) ?_
 refine RD.p rfl rfl rfl rfl (fun w' => O.move rfl) ?_
 refine RD.q rfl rfl rfl rfl (fun w' hf => O.loadN (cs := (kv8.cs)) ag42 rfl (Cs.addsN [] ((hM.bx (i := 2) rfl).fut hf) rfl)) ?_
 refine RD.p rfl rfl rfl rfl (fun w' => O.move rfl) ?_
 refine RD.q rfl rfl rfl rfl (fun w' hf => O.bld (cs := (vB true :: (kv8.cs ++ [v64 nv9]))) bt140 rfl (by kernel_rfl)) ?_
 refine Xx hF fun xv45 hx44 hF => ?_
 have hA43 := Rd.atN (f := Xt) (s := 39) (fun _ => rfl) (by decide) (hM.rd (i := 0) rfl) hx44
 refine RD.q rfl rfl rfl rfl (fun w' hf => O.idxA sl117 (hA43.fut hf) rfl rfl) ?_
 refine RD.meffs rfl rfl rfl (E.stR (enc := Xt) (j := 0) (off := 0) (vs := (vB true :: (kv8.cs ++ [v64 nv9]))) (x' := (Xm.mk true kv8 nv9)) hM rfl (fun _ => rfl) hx44 sz140 rfl (addsR_eq [] rfl) rfl rfl (One.all rfl) rfl rfl) fun w46 hM1 => ?_
 clear hM
 obtain ⟨hM, hn47⟩ := hM1
 refine RD.reslot (t := 45) rfl hn47 ?_
 replace hM := hM.rebox (i := 1) (cs' := [.slice A20 ((y16.2.2.Xp.set (y16.1 : Int).toNat (Xm.mk true kv8 nv9))).length c21, vI p39]) rfl (by rw [← hn47])
 refine RD.nil (KQ.thn hQ42 ?_)
 refine sr fun Q48 hQ48 => ?_
 refine va rfl rfl (nt hQ48 (KC.ret ?_))
 have hE := Option.some.inj hF
 clear hF
 subst hE
 replace hM := hM.pick [1, 0] rfl (by decide)
 refine KQ.rets Tryz.results77 (RVs.cons (RV.tm rfl) RVs.nil) ?_
 exact ⟨_, rfl, A20, c21, rfl, hM⟩
end Go.Proofs.YtkpnocgfhipidaaGreat
