/- Printed by a program of this claim: each call returns what the plain function of its name gives. -/
import Derived.Test.YtkpnocgfhipidaaGreatW1
import Derived.Test.YtkpnocgfhipidaaGreatW4
import Derived.Test.YtkpnocgfhipidaaGreatW5
set_option linter.unusedVariables false
set_option maxRecDepth 100000
set_option maxHeartbeats 40000000
namespace Go.Proofs.YtkpnocgfhipidaaGreat
open Go Go.Ox Go.RowKit
theorem Ju (w : World) (A2 : Option Addr) (c3 : Nat) (xv1 : List Xc) (hr4 : Rd w A2 c3 44 xv1.length (xv1.flatMap Xn)) (r : Xc) (hF : X0 xv1 = some r) :
  CallsR Tryz.prog 75 [.slice A2 (xv1).length c3, .func (.func 76) #[] #[]] w (fun v w' => v = .agg (r.cs).toArray ∧ Mem w [] w' []) := by
 refine XJ Tryz.func75 rfl Tryz.ntmps75 rfl ?_
 have hM := Mem.init w
 unfold X0 at hF
 refine sr fun Q5 hQ5 => ?_
 refine RL.eff (E.alloc hM ze62) rfl fun v w7 hv => ?_
 clear hM
 obtain ⟨g6, rfl, hM, hf⟩ := hv
 refine nt hQ5 ?_
 refine KC.cut (fun a w11 => Kn 33 [(0, .slice A2 (xv1).length c3), (1, .func (.func 76) #[] #[]), (4, .pointer (some ⟨g6, 0, none⟩))] a ∧ Mem w [] w11 [.box g6 62 (vB false :: (a16 (List.replicate 16 0) ++ (vB false :: (a16 (List.replicate 16 0) ++ [v8 0, v16 0, v16 0, v64 0, v64 0, v64 0, v64 0, v8 0, v8 0, v8 0]))))] ∧ X8 xv1 = some r) ?_ ?_
 ·refine sr fun Q9 hQ9 => ?_
  refine vm rfl rfl (RL.val (O.len sl55 rfl) rfl (RL.val (O.lss rfl rfl) rfl (nt hQ9 ?_)))
  refine KC.cond rfl (fun hc => ?_) (fun hc => ?_)
  ·rw [if_pos hc] at hF
   refine KC.region ?_
   exact (Yl hF).elim
  rw [if_neg (Xv hc)] at hF
  refine KC.skip (KQ.Xy ?_)
  exact fun a ha => ⟨ha.less (Xa rfl (Xa rfl (Xa rfl Xj))), hM, hF⟩
 rintro a w11 ⟨ha, hM, hF⟩
 refine KC.app ha ?_
 clear ha
 unfold X8 at hF
 refine sr fun Q12 hQ12 => ?_
 refine vm rfl rfl ?_
 refine Xx hF fun xv15 hx14 hF => ?_
 have hA13 := Rd.atN (f := Xn) (s := 44) (fun _ => rfl) (by decide) (hM.inp hr4 Off.nil) hx14
 refine RL.val (O.idxA sl55 (hA13) rfl rfl) rfl (RL.val (O.loadN (cs := (xv15.cs)) ag62 rfl (hA13).cells) rfl ?_)
 refine RL.eff (E.alloc hM ze62) rfl fun v w17 hv => ?_
 clear hM
 obtain ⟨g16, rfl, hM, hf⟩ := hv
 refine RL.effs (E.stB (j := 1) (off := 0) (vs := (xv15.cs)) (cs' := (xv15.cs)) hM rfl sz62 rfl (XX [] rfl) rfl rfl (One.all rfl) rfl rfl) fun w19 hM1 => ?_
 clear hM
 have hM := hM1
 clear hM1
 refine nt hQ12 ?_
 refine KC.seqH fun Q20 hQ20 => ?_
 refine sr fun Q21 hQ21 => ?_
 refine va rfl rfl (nt hQ21 (KC.block ?_))
 refine KC.loop (fun k120 a w118 => ∃ (m103 : Bool) (m104 : List Int) (m105 : Bool) (m106 : List Int) (m107 m108 m109 m110 m111 m112 m113 m114 m115 m116 i117 : Int), Kn 33 [(0, .slice A2 (xv1).length c3), (1, .func (.func 76) #[] #[]), (4, .pointer (some ⟨g6, 0, none⟩)), (5, .pointer (some ⟨g16, 0, none⟩)), (6, vI i117)] a ∧ Mem w [] w118 [.box g6 62 (vB false :: (a16 (List.replicate 16 0) ++ (vB false :: (a16 (List.replicate 16 0) ++ [v8 0, v16 0, v16 0, v64 0, v64 0, v64 0, v64 0, v8 0, v8 0, v8 0])))), .box g16 62 (vB m103 :: (a16 m104 ++ (vB m105 :: (a16 m106 ++ [v8 m107, v16 m108, v16 m109, v64 m110, v64 m111, v64 m112, v64 m113, v8 m114, v8 m115, v8 m116]))))] ∧ XP xv1 k120 m103 m104 m105 m106 m107 m108 m109 m110 m111 m112 m113 m114 m115 m116 i117 = some r) ?_ ?_
 ·exact fun a ha => ⟨fuel0, xv15.Xo.XL.YQ, xv15.Xo.XL.f_B, xv15.Xo.XN.YQ, xv15.Xo.XN.f_B, xv15.Xo.X2, xv15.Xo.X6, xv15.Xo.X1, xv15.Xk, xv15.Xr, xv15.X4, xv15.Ya, xv15.XO, xv15.X9, xv15.XU, 1, ha.less (Xa rfl (Xa rfl (Xa rfl (Xa rfl (Xa rfl Xj))))), hM, hF⟩
 rintro k120 a w118 ⟨m103, m104, m105, m106, m107, m108, m109, m110, m111, m112, m113, m114, m115, m116, i117, ha, hM, hF⟩
 refine KC.app ha ?_
 clear ha
 cases k120 with
 | zero => exact (Yl hF).elim
 | succ k120 =>
 have hF : XW (XP xv1 k120) xv1 m103 m104 m105 m106 m107 m108 m109 m110 m111 m112 m113 m114 m115 m116 i117 = some r := hF
 unfold XW at hF
 refine KC.seqH fun Q121 hQ121 => ?_
 refine sr fun Q122 hQ122 => ?_
 refine vm rfl rfl (vm rfl rfl (RL.val (O.len sl55 rfl) rfl (RL.val (O.lss rfl rfl) rfl (nt hQ122 ?_))))
 refine KC.cond rfl (fun hc => ?_) (fun hc => ?_)
 ·rw [if_pos hc] at hF
  refine KC.skip (KQ.thn hQ121 ?_)
  refine KC.cut (fun a w151 => ∃ (m137 : Bool) (m138 : List Int) (m139 : Bool) (m140 : List Int) (m141 m142 m143 m144 m145 m146 m147 m148 m149 m150 : Int), Kn 33 [(0, .slice A2 (xv1).length c3), (1, .func (.func 76) #[] #[]), (4, .pointer (some ⟨g6, 0, none⟩)), (5, .pointer (some ⟨g16, 0, none⟩)), (6, vI i117)] a ∧ Mem w [] w151 [.box g6 62 (vB false :: (a16 (List.replicate 16 0) ++ (vB false :: (a16 (List.replicate 16 0) ++ [v8 0, v16 0, v16 0, v64 0, v64 0, v64 0, v64 0, v8 0, v8 0, v8 0])))), .box g16 62 (vB m137 :: (a16 m138 ++ (vB m139 :: (a16 m140 ++ [v8 m141, v16 m142, v16 m143, v64 m144, v64 m145, v64 m146, v64 m147, v8 m148, v8 m149, v8 m150]))))] ∧ XV i117 (XP xv1 k120) m137 m138 m139 m140 m141 m142 m143 m144 m145 m146 m147 m148 m149 m150 = some r) ?_ ?_
  ·refine KC.block ?_
   refine KC.seqH fun Q123 hQ123 => ?_
   replace hM := hM.drewN 1
   refine KC.draw [] [6] [6] [0, 1, 2, 7] (.ofList [0, 1, 2, 3, 4, 5, 6, 7]) moP (by kernel_rfl) ?_
   refine RD.p rfl rfl rfl rfl (fun w' => O.move rfl) ?_
   refine RD.p rfl rfl rfl rfl (fun w' => O.move rfl) ?_
   refine RD.p rfl rfl rfl rfl (fun w' => O.move rfl) ?_
   refine Xx hF fun xv126 hx125 hF => ?_
   have hA124 := Rd.atN (f := Xn) (s := 44) (fun _ => rfl) (by decide) (hM.inp hr4 Off.nil) hx125
   refine RD.q rfl rfl rfl rfl (fun w' hf => O.idxA sl55 (hA124.fut hf) rfl rfl) ?_
   refine RD.q rfl rfl rfl rfl (fun w' hf => O.loadN (cs := (xv126.cs)) ag62 rfl (hA124.fut hf).cells) ?_
   refine RD.q rfl rfl rfl rfl (fun w' hf => O.loadN (cs := (vB m103 :: (a16 m104 ++ (vB m105 :: (a16 m106 ++ [v8 m107, v16 m108, v16 m109, v64 m110, v64 m111, v64 m112, v64 m113, v8 m114, v8 m115, v8 m116]))))) ag62 rfl (Cs.addsN [] ((hM.bx (i := 1) rfl).fut hf) rfl)) ?_
   refine Xx hF fun y127 hx128 hF => ?_
   refine RD.mcallv rfl rfl trivial (first := []) (captured := []) rfl Tryz.func76 bd76 rfl rfl (Xaj _ xv126 (Xc.mk (Xe.mk (Xd.mk m103 m104) (Xd.mk m105 m106) m107 m108 m109) m110 m111 m112 m113 m114 m115 m116) _ hx128) fun v w129 hv => ?_
   obtain ⟨rfl, hN130⟩ := hv
   refine ⟨fun _ => hN130.fut, ?_⟩
   replace hM := hM.call0 hN130
   refine RD.p rfl rfl rfl rfl (fun w' => O.lss rfl rfl) (RD.nil (KQ.thn hQ123 ?_))
   refine KC.cond rfl (fun hc => ?_) (fun hc => ?_)
   ·rw [if_pos hc] at hF
    refine KC.region (vm rfl rfl (vm rfl rfl ?_))
    refine Xx hF fun xv133 hx132 hF => ?_
    have hA131 := Rd.atN (f := Xn) (s := 44) (fun _ => rfl) (by decide) (hM.inp hr4 Off.nil) hx132
    refine RL.val (O.idxA sl55 (hA131) rfl rfl) rfl (RL.val (O.loadN (cs := (xv133.cs)) ag62 rfl (hA131).cells) rfl ?_)
    refine RL.effs (E.stB (j := 1) (off := 0) (vs := (xv133.cs)) (cs' := (xv133.cs)) hM rfl sz62 rfl (XX [] rfl) rfl rfl (One.all rfl) rfl rfl) fun w134 hM1 => ?_
    clear hM
    have hM := hM1
    clear hM1
    refine RL.nil (KQ.blk_n (KQ.Xy ?_))
    exact fun a ha => ⟨xv133.Xo.XL.YQ, xv133.Xo.XL.f_B, xv133.Xo.XN.YQ, xv133.Xo.XN.f_B, xv133.Xo.X2, xv133.Xo.X6, xv133.Xo.X1, xv133.Xk, xv133.Xr, xv133.X4, xv133.Ya, xv133.XO, xv133.X9, xv133.XU, ha.less (Xa rfl (Xa rfl (Xa rfl (Xa rfl (Xa rfl Xj))))), hM, hF⟩
   rw [if_neg (Xv hc)] at hF
   refine KC.skip (KQ.blk_n (KQ.Xy ?_))
   exact fun a ha => ⟨m103, m104, m105, m106, m107, m108, m109, m110, m111, m112, m113, m114, m115, m116, ha.less (Xa rfl (Xa rfl (Xa rfl (Xa rfl (Xa rfl Xj))))), hM, hF⟩
  rintro a w151 ⟨m137, m138, m139, m140, m141, m142, m143, m144, m145, m146, m147, m148, m149, m150, ha, hM, hF⟩
  refine KC.app ha ?_
  clear ha
  unfold XV at hF
  refine KC.region (vm rfl rfl (RL.val (O.add rfl rfl) rfl (va rfl rfl (RL.nil (KQ.Xy ?_)))))
  exact fun a ha => ⟨k120, Nat.lt_succ_self k120, m137, m138, m139, m140, m141, m142, m143, m144, m145, m146, m147, m148, m149, m150, (IntKind.i64.wrap (i117 + 1)), ha.less (Xa rfl (Xa rfl (Xa rfl (Xa rfl (Xa rfl Xj))))), hM, hF⟩
 rw [if_neg (Xv hc)] at hF
 refine KC.exit (KQ.thx hQ121 (KQ.then_x (KQ.blk_x (KQ.thn hQ20 ?_))))
 refine sr fun Q152 hQ152 => ?_
 refine RL.val (O.loadN (cs := (vB m103 :: (a16 m104 ++ (vB m105 :: (a16 m106 ++ [v8 m107, v16 m108, v16 m109, v64 m110, v64 m111, v64 m112, v64 m113, v8 m114, v8 m115, v8 m116]))))) ag62 rfl (Cs.addsN [] ((hM.bx (i := 1) rfl)) rfl)) rfl ?_
 refine RL.effs (E.stB (j := 0) (off := 0) (vs := (vB m103 :: (a16 m104 ++ (vB m105 :: (a16 m106 ++ [v8 m107, v16 m108, v16 m109, v64 m110, v64 m111, v64 m112, v64 m113, v8 m114, v8 m115, v8 m116]))))) (cs' := (vB m103 :: (a16 m104 ++ (vB m105 :: (a16 m106 ++ [v8 m107, v16 m108, v16 m109, v64 m110, v64 m111, v64 m112, v64 m113, v8 m114, v8 m115, v8 m116]))))) hM rfl sz62 rfl (XX [] rfl) rfl rfl (One.all rfl) rfl rfl) fun w153 hM1 => ?_
 clear hM
 have hM := hM1
 clear hM1
 refine nt hQ152 (KC.ret ?_)
 have hE := Option.some.inj hF
 clear hF
 subst hE
 have hb154 := hM.bx (i := 0) rfl
 replace hM := hM.pick [] rfl (by decide)
 refine KQ.rets Tryz.results75 (RVs.cons (RV.cN (cs := (vB m103 :: (a16 m104 ++ (vB m105 :: (a16 m106 ++ [v8 m107, v16 m108, v16 m109, v64 m110, v64 m111, v64 m112, v64 m113, v8 m114, v8 m115, v8 m116]))))) rfl ag62 hb154) RVs.nil) ?_
 exact ⟨_, rfl, rfl, hM⟩
theorem Xbg (w : World) (kv1 : Xe) (class2 tick3 : Int) (r : Xc) (hF : VS kv1 class2 tick3 = some r) :
  CallsR Tryz.prog 78 [.agg (kv1.cs).toArray, v8 class2, v64 tick3] w (fun v w' => v = .agg (r.cs).toArray ∧ Mem w [] w' []) := by
 refine XJ Tryz.func78 rfl Tryz.ntmps78 rfl ?_
 have hM := Mem.init w
 unfold VS at hF
 refine sr fun Q4 hQ4 => ?_
 refine RL.eff (E.box (vs := (kv1.cs)) hM rfl rfl) rfl fun v w6 hv => ?_
 clear hM
 obtain ⟨g5, rfl, hM, hf⟩ := hv
 refine RL.eff (E.alloc hM ze62) rfl fun v w9 hv => ?_
 clear hM
 obtain ⟨g8, rfl, hM, hf⟩ := hv
 refine nt hQ4 ?_
 refine sr fun Q11 hQ11 => ?_
 refine RL.val (O.loadN (cs := (kv1.cs)) ag42 rfl (Cs.addsN [] ((hM.bx (i := 0) rfl)) rfl)) rfl (vm rfl rfl (vm rfl rfl (vm rfl rfl (RL.val (O.bld (cs := (kv1.cs ++ [v64 0, v64 0, v64 tick3, v64 tick3, v8 0, v8 0, v8 class2])) bt62 rfl (by kernel_rfl)) rfl ?_))))
 refine RL.effs (E.stB (j := 1) (off := 0) (vs := (kv1.cs ++ [v64 0, v64 0, v64 tick3, v64 tick3, v8 0, v8 0, v8 class2])) (cs' := (kv1.cs ++ [v64 0, v64 0, v64 tick3, v64 tick3, v8 0, v8 0, v8 class2])) hM rfl sz62 rfl (XX [] rfl) rfl rfl (One.all rfl) rfl rfl) fun w12 hM1 => ?_
 clear hM
 have hM := hM1
 clear hM1
 refine nt hQ11 (KC.ret ?_)
 have hE := Option.some.inj hF
 clear hF
 subst hE
 have hb13 := hM.bx (i := 1) rfl
 replace hM := hM.pick [] rfl (by decide)
 refine KQ.rets Tryz.results78 (RVs.cons (RV.cN (cs := (kv1.cs ++ [v64 0, v64 0, v64 tick3, v64 tick3, v8 0, v8 0, v8 class2])) rfl ag62 hb13) RVs.nil) ?_
 exact ⟨_, rfl, rfl, hM⟩
theorem Xaw (w : World) (g2 : Nat) (tg12 : TypeId) (cv1 : Xl) (g4 : Nat) (A6 : Option Addr) (c7 : Nat) (A9 : Option Addr) (c10 : Nat) (hL15 : Lent w [.box g2 tg12 (v64 cv1.XB :: (cv1.Xb.cs ++ [.pointer (some ⟨g4, 0, none⟩), .slice A9 (cv1.Xh).length c10])), .box g4 119 [.slice A6 (cv1.Xf.Xp).length c7, vI cv1.Xf.XG], .row A6 c7 140 39 (cv1.Xf.Xp).length ((cv1.Xf.Xp).flatMap Xt), .row A9 c10 62 44 (cv1.Xh).length ((cv1.Xh).flatMap Xn)]) (kv13 : Xe) (class14 : Int) (r : (List Xc) × Xl) (hF : ZM cv1 kv13 class14 = some r) :
  CallsR Tryz.prog 43 [.pointer (some ⟨g2, 0, none⟩), .agg (kv13.cs).toArray, v8 class14] w (fun v w' => ∃ (g0 : Nat) (A1 : Option Addr) (c1 : Nat) (A2 : Option Addr) (c2 : Nat) (A3 : Option Addr) (c3 : Nat), v = .slice A3 (r.1).length c3 ∧ Mem w [some g2, some g4, rblk A6 c7, rblk A9 c10] w' [.box g2 tg12 (v64 r.2.XB :: (r.2.Xb.cs ++ [.pointer (some ⟨g0, 0, none⟩), .slice A2 (r.2.Xh).length c2])), .box g0 119 [.slice A1 (r.2.Xf.Xp).length c1, vI r.2.Xf.XG], .row A1 c1 140 39 r.2.Xf.Xp.length (r.2.Xf.Xp.flatMap Xt), .row A2 c2 62 44 r.2.Xh.length (r.2.Xh.flatMap Xn), .row A3 c3 62 44 r.1.length (r.1.flatMap Xn)]) := by
 refine XJ Tryz.func43 rfl Tryz.ntmps43 rfl ?_
 have hM : Mem w [some g2, some g4, rblk A6 c7, rblk A9 c10] w [.box g2 tg12 (v64 cv1.XB :: (cv1.Xb.cs ++ [.pointer (some ⟨g4, 0, none⟩), .slice A9 (cv1.Xh).length c10])), .box g4 119 [.slice A6 (cv1.Xf.Xp).length c7, vI cv1.Xf.XG], .row A6 c7 140 39 (cv1.Xf.Xp).length ((cv1.Xf.Xp).flatMap Xt), .row A9 c10 62 44 (cv1.Xh).length ((cv1.Xh).flatMap Xn)] := Mem.lendN hL15
 unfold ZM at hF
 refine sr fun Q16 hQ16 => ?_
 refine RL.eff (E.box (vs := (kv13.cs)) hM rfl rfl) rfl fun v w18 hv => ?_
 clear hM
 obtain ⟨g17, rfl, hM, hf⟩ := hv
 refine va rfl rfl (nt hQ16 ?_)
 refine KC.cut (fun a w73 => ∃ (g58 : Nat) (A60 : Option Addr) (c61 : Nat) (A65 : Option Addr) (c66 : Nat) (A70 : Option Addr) (c71 : Nat) (p51 p52 p53 p54 p55 p56 : Int) (p62 : List Xm) (p63 : Int) (p67 out72 : List Xc), Kn 60 [(0, .pointer (some ⟨g2, 0, none⟩)), (2, v8 class14), (4, .pointer (some ⟨g17, 0, none⟩)), (6, .slice A70 (out72).length c71)] a ∧ Mem w [some g2, some g4, rblk A6 c7, rblk A9 c10] w73 [.row A60 c61 140 39 (p62).length ((p62).flatMap Xt), .box g58 119 [.slice A60 (p62).length c61, vI p63], .row A65 c66 62 44 (p67).length ((p67).flatMap Xn), .box g2 tg12 [v64 p51, vI p52, v64 p53, v64 p54, v64 p55, v64 p56, .pointer (some ⟨g58, 0, none⟩), .slice A65 (p67).length c66], .box g17 42 (kv13.cs), .row A70 c71 62 44 (out72).length ((out72).flatMap Xn)] ∧ ZH kv13 class14 p51 p52 p53 p54 p55 p56 p62 p63 p67 out72 = some r) ?_ ?_
 ·refine KC.seqH fun Q20 hQ20 => ?_
  replace hM := hM.drewN 1
  refine KC.draw [] [] [] [0, 1, 2, 4, 5, 6, 7, 8, 10] (.ofList [0, 1, 2, 3, 4, 5, 6, 7, 8, 9, 10]) moP (by kernel_rfl) ?_
  refine RD.p rfl rfl rfl rfl (fun w' => O.move rfl) ?_
  refine RD.p rfl rfl rfl rfl (fun w' => O.nilp rfl) ?_
  refine RD.p rfl rfl rfl rfl (fun w' => O.fldA fl69_3 (by decide) rfl) ?_
  refine RD.q rfl rfl rfl rfl (fun w' hf => O.load sc55 rfl (Cs.adds [7] ((hM.bx (i := 0) rfl).fut hf) rfl)) ?_
  refine RD.p rfl rfl rfl rfl (fun w' => O.len sl55 rfl) ?_
  refine RD.p rfl rfl rfl rfl (fun w' => O.move rfl) ?_
  refine RD.p rfl rfl rfl rfl (fun w' => O.nilp rfl) ?_
  refine RD.p rfl rfl rfl rfl (fun w' => O.fldA fl69_1 (by decide) rfl) ?_
  refine RD.p rfl rfl rfl rfl (fun w' => O.fldA fl24_0 (by decide) rfl) ?_
  refine RD.q rfl rfl rfl rfl (fun w' hf => O.load sc3 rfl (Cs.adds [1, 0] ((hM.bx (i := 0) rfl).fut hf) rfl)) ?_
  refine RD.p rfl rfl rfl rfl (fun w' => O.eql rfl rfl) (RD.nil (KQ.thn hQ20 ?_))
  refine KC.cond rfl (fun hc => ?_) (fun hc => ?_)
  ·rw [if_pos hc] at hF
   refine sr fun Q21 hQ21 => ?_
   refine vm rfl rfl (RL.val (O.nilp rfl) rfl (RL.val (O.fldA fl69_3 (by decide) rfl) rfl ?_))
   refine RL.val (O.load sc55 rfl (Cs.adds [7] ((hM.bx (i := 0) rfl)) rfl)) rfl ?_
   refine Xx hF fun y22 hx23 hF => ?_
   refine RL.call Tryz.func75 bd75 rfl rfl (Ju _ _ _ cv1.Xh (hM.rd (i := 3) rfl) _ hx23) fun v w24 hv => ?_
   obtain ⟨rfl, hN25⟩ := hv
   replace hM := hM.call0 hN25
   refine RL.eff (E.alloc hM ze62) rfl fun v w27 hv => ?_
   clear hM
   obtain ⟨g26, rfl, hM, hf⟩ := hv
   refine RL.effs (E.stB (j := 5) (off := 0) (vs := (y22.cs)) (cs' := (y22.cs)) hM rfl sz62 rfl (XX [] rfl) rfl rfl (One.all rfl) rfl rfl) fun w29 hM1 => ?_
   clear hM
   have hM := hM1
   clear hM1
   refine nt hQ21 (KC.region (vm rfl rfl (vm rfl rfl (RL.val (O.fldA fl62_0 (by decide) rfl) rfl ?_))))
   refine RL.val (O.loadN (cs := (y22.Xo.cs)) ag42 rfl (Cs.addsN [0] ((hM.bx (i := 5) rfl)) rfl)) rfl ?_
   refine Xx hF fun y30 hx31 hF => ?_
   refine RL.call Tryz.func46 bd46 rfl rfl (Kh _ _ _ cv1 _ _ _ _ _ (hM.lent [0, 1, 2, 3] rfl (by decide)) y22.Xo 5 _ hx31) fun v w32 hv => ?_
   obtain ⟨g34, A36, c37, A39, c40, rfl, hN33⟩ := hv
   replace hM := hM.callL [0, 1, 2, 3] [4, 5] rfl rfl (by decide) rfl hN33
   refine RL.eff (E.bsl (enc := Xn) (xs := ([y30.1] : List Xc)) hM sl55 ze62 rfl rfl rfl (fun _ => rfl) rfl (by kernel_rfl) rfl) rfl fun v w42 hv => ?_
   clear hM
   obtain ⟨A43, rfl, hM, hf⟩ := hv
   refine XZ hF fun hq48 hF => ?_
   refine RL.eff (E.app0 (enc := Xn) (ys := ([y30.1] : List Xc)) hM sl55 ze62 rfl rfl rfl rfl rfl (hM.rd (i := 6) rfl) (fun _ => One.all rfl) (of_decide_eq_true hq48)) rfl fun v w47 hv => ?_
   clear hM
   obtain ⟨A45, c46, rfl, hM, hf⟩ := hv
   refine va rfl rfl (RL.nil (KQ.Xy ?_))
   replace hM := hM.pick [4, 3, 5, 2, 0, 7] rfl (by decide)
   exact fun a ha => ⟨g34, A36, c37, A39, c40, A45, c46, y30.2.XB, y30.2.Xb.Xz, y30.2.Xb.XI, y30.2.Xb.XA, y30.2.Xb.Xk, y30.2.Xb.Xr, y30.2.Xf.Xp, y30.2.Xf.XG, y30.2.Xh, ([y30.1] : List Xc), ha.less (Xa rfl (Xa rfl (Xa rfl (Xa rfl Xj)))), hM, hF⟩
  rw [if_neg (Xv hc)] at hF
  refine KC.skip (KQ.Xy ?_)
  replace hM := hM.nilrow 62 44
  replace hM := hM.pick [2, 1, 3, 0, 4, 5] rfl (by decide)
  exact fun a ha => ⟨g4, A6, c7, A9, c10, none, 0, cv1.XB, cv1.Xb.Xz, cv1.Xb.XI, cv1.Xb.XA, cv1.Xb.Xk, cv1.Xb.Xr, cv1.Xf.Xp, cv1.Xf.XG, cv1.Xh, ([]), ha.less (Xa rfl (Xa rfl (Xa rfl (Xa rfl Xj)))), hM, hF⟩
 rintro a w73 ⟨g58, A60, c61, A65, c66, A70, c71, p51, p52, p53, p54, p55, p56, p62, p63, p67, out72, ha, hM, hF⟩
 refine KC.app ha ?_
 clear ha
 unfold ZH at hF
 refine KC.seqH fun Q74 hQ74 => ?_
 replace hM := hM.drewN 1
 refine KC.draw [] [11] [11] [0, 1, 2, 5, 6, 7, 9, 10] (.ofList [0, 1, 2, 3, 4, 5, 6, 7, 8, 9, 10, 11]) moP (by kernel_rfl) ?_
 refine RD.p rfl rfl rfl rfl (fun w' => O.move rfl) ?_
 refine RD.p rfl rfl rfl rfl (fun w' => O.nilp rfl) ?_
 refine RD.p rfl rfl rfl rfl (fun w' => O.fldA fl69_2 (by decide) rfl) ?_
 refine RD.q rfl rfl rfl rfl (fun w' hf => O.load sc63 rfl (Cs.adds [6] ((hM.bx (i := 3) rfl).fut hf) rfl)) ?_
 refine RD.q rfl rfl rfl rfl (fun w' hf => O.loadN (cs := (kv13.cs)) ag42 rfl (Cs.addsN [] ((hM.bx (i := 4) rfl).fut hf) rfl)) ?_
 refine RD.p rfl rfl rfl rfl (fun w' => O.move rfl) ?_
 refine RD.p rfl rfl rfl rfl (fun w' => O.nilp rfl) ?_
 refine RD.p rfl rfl rfl rfl (fun w' => O.fldA fl69_3 (by decide) rfl) ?_
 refine RD.q rfl rfl rfl rfl (fun w' hf => O.load sc55 rfl (Cs.adds [7] ((hM.bx (i := 3) rfl).fut hf) rfl)) ?_
 refine RD.p rfl rfl rfl rfl (fun w' => O.len sl55 rfl) ?_
 refine RD.p rfl rfl rfl rfl (fun w' => O.conv un3 Tryz.underlying22 rfl) ?_
 refine Xx hF fun y75 hx76 hF => ?_
 refine RD.mcall rfl rfl trivial Tryz.func77 bd77 rfl rfl (V1 _ _ _ (Xw.mk p62 p63) _ _ (hM.lent [1, 0] rfl (by decide)) kv13 (IntKind.u64.wrap (p67.length : Int)) _ hx76) fun v w77 hv => ?_
 obtain ⟨A79, c80, rfl, hN78⟩ := hv
 refine ⟨fun h => (by cases h), ?_⟩
 replace hM := hM.callL [1, 0] [2, 3, 4, 5] rfl rfl (by decide) rfl hN78
 refine RD.nil (KQ.thn hQ74 ?_)
 refine KC.seqH fun Q82 hQ82 => ?_
 replace hM := hM.drewN 1
 refine KC.draw [] [13, 16] [11, 12, 13, 16] [0, 1, 2, 3, 6, 7, 8, 9, 14, 15] (.ofList [0, 1, 2, 3, 4, 5, 6, 7, 8, 9, 10, 11, 12, 13, 14, 15, 16]) moP (by kernel_rfl) ?_
 refine RD.p rfl rfl rfl rfl (fun w' => O.move rfl) ?_
 refine RD.p rfl rfl rfl rfl (fun w' => O.move rfl) ?_
 refine RD.p rfl rfl rfl rfl (fun w' => O.nilp rfl) ?_
 refine RD.p rfl rfl rfl rfl (fun w' => O.fldA fl69_3 (by decide) rfl) ?_
 refine RD.q rfl rfl rfl rfl (fun w' hf => O.load sc55 rfl (Cs.adds [7] ((hM.bx (i := 1) rfl).fut hf) rfl)) ?_
 refine RD.q rfl rfl rfl rfl (fun w' hf => O.loadN (cs := (kv13.cs)) ag42 rfl (Cs.addsN [] ((hM.bx (i := 2) rfl).fut hf) rfl)) ?_
 refine RD.p rfl rfl rfl rfl (fun w' => O.move rfl) ?_
 refine RD.p rfl rfl rfl rfl (fun w' => O.move rfl) ?_
 refine RD.p rfl rfl rfl rfl (fun w' => O.nilp rfl) ?_
 refine RD.p rfl rfl rfl rfl (fun w' => O.fldA fl69_0 (by decide) rfl) ?_
 refine RD.q rfl rfl rfl rfl (fun w' hf => O.load sc22 rfl (Cs.adds [0] ((hM.bx (i := 1) rfl).fut hf) rfl)) ?_
 refine Xx hF fun y83 hx84 hF => ?_
 refine RD.mcall rfl rfl trivial Tryz.func78 bd78 rfl rfl (Xbg _ kv13 class14 p51 _ hx84) fun v w85 hv => ?_
 obtain ⟨rfl, hN86⟩ := hv
 refine ⟨fun _ => hN86.fut, ?_⟩
 replace hM := hM.call0 hN86
 refine RD.meff rfl rfl (E.bsl (enc := Xn) (xs := ([y83] : List Xc)) hM sl55 ze62 rfl rfl rfl (fun _ => rfl) rfl (by kernel_rfl) rfl) rfl fun v w87 hv => ?_
 clear hM
 obtain ⟨A88, rfl, hM, hf⟩ := hv
 refine ⟨fun _ => hf, ?_⟩
 refine XZ hF fun hq93 hF => ?_
 refine RD.meff rfl rfl (E.app (enc := Xn) (xs := p67) (ys := ([y83] : List Xc)) (j := 0) hM rfl sl55 ze62 rfl rfl rfl rfl rfl (hM.rd (i := 6) rfl) (fun _ => One.all rfl) (of_decide_eq_true hq93)) rfl fun v w92 hv => ?_
 clear hM
 obtain ⟨A90, c91, rfl, hM, hf⟩ := hv
 refine ⟨fun h => (by cases h), ?_⟩
 refine RD.p rfl rfl rfl rfl (fun w' => O.nilp rfl) ?_
 refine RD.p rfl rfl rfl rfl (fun w' => O.fldA fl69_3 (by decide) rfl) ?_
 refine RD.meffs rfl rfl rfl (E.stB (j := 1) (off := 7) (vs := [.slice A90 ((p67 ++ ([y83] : List Xc))).length c91]) (cs' := [v64 p51, vI p52, v64 p53, v64 p54, v64 p55, v64 p56, .pointer (some ⟨g58, 0, none⟩), .slice A90 ((p67 ++ ([y83] : List Xc))).length c91]) hM rfl sz55 rfl (XX [7] rfl) rfl rfl (One.all rfl) rfl rfl) fun w95 hM1 => ?_
 clear hM
 have hM := hM1
 clear hM1
 refine RD.nil (KQ.thn hQ82 ?_)
 replace hM := hM.pick [0, 1, 3, 4, 5] rfl (by decide)
 refine sr fun Q96 hQ96 => ?_
 refine vm rfl rfl (va rfl rfl (nt hQ96 (KC.ret ?_)))
 have hE := Option.some.inj hF
 clear hF
 subst hE
 replace hM := hM.pick [1, 3, 4, 0, 2] rfl (by decide)
 refine KQ.rets Tryz.results43 (RVs.cons (RV.tm rfl) RVs.nil) ?_
 exact ⟨_, rfl, g58, A79, c80, A90, c91, A70, c71, rfl, hM⟩
theorem K3 (w : World) (rv1 : Xc) (r : Yc) (hF : Zp rv1 = some r) :
  CallsR Tryz.prog 40 [.agg (rv1.cs).toArray] w (fun v w' => v = .agg #[v64 r.Xk, v64 r.Xr] ∧ Mem w [] w' []) := by
 refine XJ Tryz.func40 rfl Tryz.ntmps40 rfl ?_
 have hM := Mem.init w
 unfold Zp at hF
 refine sr fun Q2 hQ2 => ?_
 refine RL.eff (E.box (vs := (rv1.cs)) hM rfl rfl) rfl fun v w4 hv => ?_
 clear hM
 obtain ⟨g3, rfl, hM, hf⟩ := hv
 refine RL.eff (E.alloc hM ze100) rfl fun v w7 hv => ?_
 clear hM
 obtain ⟨g6, rfl, hM, hf⟩ := hv
 refine nt hQ2 ?_
 refine sr fun Q9 hQ9 => ?_
 refine RL.val (O.fldA fl62_1 (by decide) rfl) rfl ?_
 refine RL.val (O.load sc22 rfl (Cs.adds [37] ((hM.bx (i := 0) rfl)) rfl)) rfl (RL.val (O.fldA fl62_2 (by decide) rfl) rfl ?_)
 refine RL.val (O.load sc22 rfl (Cs.adds [38] ((hM.bx (i := 0) rfl)) rfl)) rfl (RL.val (O.bld (cs := [v64 rv1.Xk, v64 rv1.Xr]) bt100 rfl (by kernel_rfl)) rfl ?_)
 refine RL.effs (E.stB (j := 1) (off := 0) (vs := [v64 rv1.Xk, v64 rv1.Xr]) (cs' := [v64 rv1.Xk, v64 rv1.Xr]) hM rfl sz100 rfl (XX [] rfl) rfl rfl (One.all rfl) rfl rfl) fun w10 hM1 => ?_
 clear hM
 have hM := hM1
 clear hM1
 refine nt hQ9 (KC.ret ?_)
 have hE := Option.some.inj hF
 clear hF
 subst hE
 have hb11 := hM.bx (i := 1) rfl
 replace hM := hM.pick [] rfl (by decide)
 refine KQ.rets Tryz.results40 (RVs.cons (RV.cN (cs := [v64 rv1.Xk, v64 rv1.Xr]) rfl ag100 hb11) RVs.nil) ?_
 exact ⟨_, rfl, rfl, hM⟩
theorem XaW (w : World) (av1 b2 r : Int) (hF : VF av1 b2 = some r) :
  CallsR Tryz.prog 95 [v64 av1, v64 b2] w (fun v w' => v = v64 r ∧ Mem w [] w' []) := by
 refine XJ Tryz.func95 rfl Tryz.ntmps95 rfl ?_
 have hM := Mem.init w
 unfold VF at hF
 refine sr fun Q3 hQ3 => ?_
 refine va rfl rfl (nt hQ3 ?_)
 refine sr fun Q4 hQ4 => ?_
 refine vm rfl rfl (vm rfl rfl (RL.val (O.add64 Tryz.func96 (by kernel_rfl) (by kernel_rfl) (by kernel_rfl) (by kernel_rfl) rfl rfl rfl) rfl ?_))
 refine vm rfl rfl (RL.val (O.ext rfl rfl) rfl (RL.val (O.ext rfl rfl) rfl (va rfl rfl (va rfl rfl (nt hQ4 ?_)))))
 refine KC.seqH fun Q5 hQ5 => ?_
 refine sr fun Q6 hQ6 => ?_
 refine vm rfl rfl (RL.val (O.gtr rfl rfl) rfl (nt hQ6 ?_))
 refine KC.cond rfl (fun hc => ?_) (fun hc => ?_)
 ·rw [if_pos hc] at hF
  refine sr fun Q7 hQ7 => ?_
  refine va rfl rfl (nt hQ7 (KC.ret (KQ.thr hQ5 ?_)))
  have hE := Option.some.inj hF
  clear hF
  subst hE
  refine KQ.rets Tryz.results95 (RVs.cons (RV.tm rfl) RVs.nil) ?_
  exact ⟨_, rfl, rfl, hM⟩
 rw [if_neg (Xv hc)] at hF
 refine KC.skip (KQ.thn hQ5 ?_)
 refine sr fun Q8 hQ8 => ?_
 refine vm rfl rfl (va rfl rfl (nt hQ8 (KC.ret ?_)))
 have hE := Option.some.inj hF
 clear hF
 subst hE
 refine KQ.rets Tryz.results95 (RVs.cons (RV.tm rfl) RVs.nil) ?_
 exact ⟨_, rfl, rfl, hM⟩
theorem Vl (w : World) (t1 : Yc) (u2 : Yc) (r : Yc) (hF : UW t1 u2 = some r) :
  CallsR Tryz.prog 79 [.agg #[v64 t1.Xk, v64 t1.Xr], .agg #[v64 u2.Xk, v64 u2.Xr]] w (fun v w' => v = .agg #[v64 r.Xk, v64 r.Xr] ∧ Mem w [] w' []) := by
 refine XJ Tryz.func79 rfl Tryz.ntmps79 rfl ?_
 have hM := Mem.init w
 unfold UW at hF
 refine sr fun Q3 hQ3 => ?_
 refine RL.eff (E.box (vs := [v64 t1.Xk, v64 t1.Xr]) hM rfl rfl) rfl fun v w5 hv => ?_
 clear hM
 obtain ⟨g4, rfl, hM, hf⟩ := hv
 refine RL.eff (E.box (vs := [v64 u2.Xk, v64 u2.Xr]) hM rfl rfl) rfl fun v w8 hv => ?_
 clear hM
 obtain ⟨g7, rfl, hM, hf⟩ := hv
 refine RL.eff (E.alloc hM ze100) rfl fun v w11 hv => ?_
 clear hM
 obtain ⟨g10, rfl, hM, hf⟩ := hv
 refine nt hQ3 ?_
 refine KC.seqH fun Q13 hQ13 => ?_
 replace hM := hM.drewN 1
 refine KC.draw [] [11] [4, 9, 11] [0, 2, 5, 7] (.ofList [0, 1, 2, 3, 5, 6, 7, 8, 4, 9, 10, 11]) moP (by kernel_rfl) ?_
 refine RD.p rfl rfl rfl rfl (fun w' => O.fldA fl100_0 (by decide) rfl) ?_
 refine RD.q rfl rfl rfl rfl (fun w' hf => O.load sc22 rfl (Cs.adds [0] ((hM.bx (i := 0) rfl).fut hf) rfl)) ?_
 refine RD.p rfl rfl rfl rfl (fun w' => O.fldA fl100_0 (by decide) rfl) ?_
 refine RD.q rfl rfl rfl rfl (fun w' hf => O.load sc22 rfl (Cs.adds [0] ((hM.bx (i := 1) rfl).fut hf) rfl)) ?_
 refine RD.p rfl rfl rfl rfl (fun w' => O.fldA fl100_1 (by decide) rfl) ?_
 refine RD.q rfl rfl rfl rfl (fun w' hf => O.load sc22 rfl (Cs.adds [1] ((hM.bx (i := 0) rfl).fut hf) rfl)) ?_
 refine RD.p rfl rfl rfl rfl (fun w' => O.fldA fl100_1 (by decide) rfl) ?_
 refine RD.q rfl rfl rfl rfl (fun w' hf => O.load sc22 rfl (Cs.adds [1] ((hM.bx (i := 1) rfl).fut hf) rfl)) ?_
 refine Xx hF fun y14 hx15 hF => ?_
 refine RD.mcall rfl rfl trivial Tryz.func95 bd95 rfl rfl (XaW _ t1.Xk u2.Xk _ hx15) fun v w16 hv => ?_
 obtain ⟨rfl, hN17⟩ := hv
 refine ⟨fun _ => hN17.fut, ?_⟩
 replace hM := hM.call0 hN17
 refine Xx hF fun y18 hx19 hF => ?_
 refine RD.mcall rfl rfl trivial Tryz.func95 bd95 rfl rfl (XaW _ t1.Xr u2.Xr _ hx19) fun v w20 hv => ?_
 obtain ⟨rfl, hN21⟩ := hv
 refine ⟨fun _ => hN21.fut, ?_⟩
 replace hM := hM.call0 hN21
 refine RD.q rfl rfl rfl rfl (fun w' hf => O.bld (cs := [v64 y14, v64 y18]) bt100 rfl (by kernel_rfl)) ?_
 refine RD.meffs rfl rfl rfl (E.stB (j := 2) (off := 0) (vs := [v64 y14, v64 y18]) (cs' := [v64 y14, v64 y18]) hM rfl sz100 rfl (XX [] rfl) rfl rfl (One.all rfl) rfl rfl) fun w22 hM1 => ?_
 clear hM
 have hM := hM1
 clear hM1
 refine RD.nil (KQ.thn hQ13 (KC.ret ?_))
 have hE := Option.some.inj hF
 clear hF
 subst hE
 have hb23 := hM.bx (i := 2) rfl
 replace hM := hM.pick [] rfl (by decide)
 refine KQ.rets Tryz.results79 (RVs.cons (RV.cN (cs := [v64 y14, v64 y18]) rfl ag100 hb23) RVs.nil) ?_
 exact ⟨_, rfl, rfl, hM⟩
end Go.Proofs.YtkpnocgfhipidaaGreat
