/- Printed by a program of this claim: each call returns what the plain function of its name gives. -/
import Derived.Test.YtkpnocgfhipidaaGreatW1
import Derived.Test.YtkpnocgfhipidaaGreatW2
import Derived.Test.YtkpnocgfhipidaaGreatW4
import Derived.Test.YtkpnocgfhipidaaGreatW5
import Derived.Test.YtkpnocgfhipidaaGreatW6
import Derived.Test.YtkpnocgfhipidaaGreatW7
set_option linter.unusedVariables false
set_option maxRecDepth 100000
set_option maxHeartbeats 40000000
namespace Go.Proofs.YtkpnocgfhipidaaGreat
open Go Go.Ox Go.RowKit
theorem Yp (w : World) (g2 : Nat) (tg12 : TypeId) (cv1 : Xl) (g4 : Nat) (A6 : Option Addr) (c7 : Nat) (A9 : Option Addr) (c10 : Nat) (hL16 : Lent w [.box g2 tg12 (v64 cv1.XB :: (cv1.Xb.cs ++ [.pointer (some ⟨g4, 0, none⟩), .slice A9 (cv1.Xh).length c10])), .box g4 119 [.slice A6 (cv1.Xf.Xp).length c7, vI cv1.Xf.XG], .row A6 c7 140 39 (cv1.Xf.Xp).length ((cv1.Xf.Xp).flatMap Xt), .row A9 c10 62 44 (cv1.Xh).length ((cv1.Xh).flatMap Xn)]) (p13 : XC) (class14 tick15 : Int) (r : (List Xc) × Int × Xl) (hF : XQ cv1 p13 class14 tick15 = some r) :
  CallsR Tryz.prog 16 [.pointer (some ⟨g2, 0, none⟩), .agg (p13.cs).toArray, v8 class14, v64 tick15] w (fun v w' => ∃ (g0 : Nat) (A1 : Option Addr) (c1 : Nat) (A2 : Option Addr) (c2 : Nat) (A3 : Option Addr) (c3 : Nat), v = .tuple #[.slice A3 (r.1).length c3, vI r.2.1] ∧ Mem w [some g2, some g4, rblk A6 c7, rblk A9 c10] w' [.box g2 tg12 (v64 r.2.2.XB :: (r.2.2.Xb.cs ++ [.pointer (some ⟨g0, 0, none⟩), .slice A2 (r.2.2.Xh).length c2])), .box g0 119 [.slice A1 (r.2.2.Xf.Xp).length c1, vI r.2.2.Xf.XG], .row A1 c1 140 39 r.2.2.Xf.Xp.length (r.2.2.Xf.Xp.flatMap Xt), .row A2 c2 62 44 r.2.2.Xh.length (r.2.2.Xh.flatMap Xn), .row A3 c3 62 44 r.1.length (r.1.flatMap Xn)]) := by
 refine XJ Tryz.func16 rfl Tryz.ntmps16 rfl ?_
 have hM : Mem w [some g2, some g4, rblk A6 c7, rblk A9 c10] w [.box g2 tg12 (v64 cv1.XB :: (cv1.Xb.cs ++ [.pointer (some ⟨g4, 0, none⟩), .slice A9 (cv1.Xh).length c10])), .box g4 119 [.slice A6 (cv1.Xf.Xp).length c7, vI cv1.Xf.XG], .row A6 c7 140 39 (cv1.Xf.Xp).length ((cv1.Xf.Xp).flatMap Xt), .row A9 c10 62 44 (cv1.Xh).length ((cv1.Xh).flatMap Xn)] := Mem.lendN hL16
 unfold XQ at hF
 refine sr fun Q17 hQ17 => ?_
 refine RL.eff (E.box (vs := (p13.cs)) hM rfl rfl) rfl fun v w19 hv => ?_
 clear hM
 obtain ⟨g18, rfl, hM, hf⟩ := hv
 refine va rfl rfl (va rfl rfl (nt hQ17 ?_))
 refine KC.seqH fun Q21 hQ21 => ?_
 refine KC.block ?_
 refine sr fun Q22 hQ22 => ?_
 refine vm rfl rfl (RL.val (O.peqn Tryz.underlying27 rfl rfl) rfl (va rfl rfl (nt hQ22 (KC.condF rfl ?_))))
 refine sr fun Q23 hQ23 => ?_
 refine RL.val (O.fldA fl44_0 (by decide) rfl) rfl ?_
 refine RL.val (O.loadN (cs := (p13.Xo.cs)) ag42 rfl (Cs.addsN [0] ((hM.bx (i := 4) rfl)) rfl)) rfl ?_
 refine Xx hF fun y24 hx25 hF => ?_
 refine RL.call Tryz.func37 bd37 rfl rfl (KK _ p13.Xo _ hx25) fun v w26 hv => ?_
 obtain ⟨rfl, hN27⟩ := hv
 replace hM := hM.call0 hN27
 refine RL.val (O.not rfl) rfl (va rfl rfl (nt hQ23 ?_))
 refine KC.cond rfl (fun hc => ?_) (fun hc => ?_)
 ·rw [if_pos hc] at hF
  refine sr fun Q28 hQ28 => ?_
  refine va rfl rfl (va rfl rfl (nt hQ28 (KC.ret (KQ.blk_r (KQ.thr hQ21 ?_)))))
  have hE := Option.some.inj hF
  clear hF
  subst hE
  replace hM := hM.nilrow 62 44
  replace hM := hM.pick [0, 1, 2, 3, 5] rfl (by decide)
  refine KQ.rets Tryz.results16 (RVs.cons (RV.tm rfl) (RVs.cons (RV.tm rfl) RVs.nil)) ?_
  exact ⟨_, rfl, g4, A6, c7, A9, c10, none, 0, rfl, hM⟩
 rw [if_neg (Xv hc)] at hF
 refine KC.skip (KQ.blk_n (KQ.thn hQ21 ?_))
 refine sr fun Q29 hQ29 => ?_
 refine vm rfl rfl (vm rfl rfl ?_)
 refine Xx hF fun y30 hx31 hF => ?_
 refine RL.call Tryz.func18 bd18 rfl rfl (Zz _ _ _ cv1 _ _ _ _ _ (hM.lent [0, 1, 2, 3] rfl (by decide)) tick15 _ hx31) fun v w32 hv => ?_
 obtain ⟨g34, A36, c37, A39, c40, A42, c43, rfl, hN33⟩ := hv
 replace hM := hM.callL [0, 1, 2, 3] [4] rfl rfl (by decide) rfl hN33
 refine va rfl rfl (nt hQ29 ?_)
 refine KC.cut (fun a w97 => ∃ (g82 : Nat) (A84 : Option Addr) (c85 : Nat) (A89 : Option Addr) (c90 : Nat) (A94 : Option Addr) (c95 : Nat) (p75 p76 p77 p78 p79 p80 : Int) (p86 : List Xm) (p87 : Int) (p91 out96 : List Xc), Kn 113 [(0, .pointer (some ⟨g2, 0, none⟩)), (5, .pointer (some ⟨g18, 0, none⟩)), (10, .slice A94 (out96).length c95)] a ∧ Mem w [some g2, some g4, rblk A6 c7, rblk A9 c10] w97 [.row A84 c85 140 39 (p86).length ((p86).flatMap Xt), .box g82 119 [.slice A84 (p86).length c85, vI p87], .row A89 c90 62 44 (p91).length ((p91).flatMap Xn), .box g2 tg12 [v64 p75, vI p76, v64 p77, v64 p78, v64 p79, v64 p80, .pointer (some ⟨g82, 0, none⟩), .slice A89 (p91).length c90], .box g18 44 (p13.cs), .row A94 c95 62 44 (out96).length ((out96).flatMap Xn)] ∧ Yx p13 p75 p76 p77 p78 p79 p80 p86 p87 p91 out96 = some r) ?_ ?_
 ·refine KC.seqH fun Q45 hQ45 => ?_
  replace hM := hM.drewN 1
  refine KC.draw [] [6] [6] [0, 1, 2, 4, 7, 8, 9, 10, 11] (.ofList [0, 1, 2, 3, 4, 5, 6, 7, 8, 9, 10, 11]) moP (by kernel_rfl) ?_
  refine RD.p rfl rfl rfl rfl (fun w' => O.move rfl) ?_
  refine RD.p rfl rfl rfl rfl (fun w' => O.nilp rfl) ?_
  refine RD.p rfl rfl rfl rfl (fun w' => O.fldA fl69_2 (by decide) rfl) ?_
  refine RD.q rfl rfl rfl rfl (fun w' hf => O.load sc63 rfl (Cs.adds [6] ((hM.bx (i := 1) rfl).fut hf) rfl)) ?_
  refine RD.p rfl rfl rfl rfl (fun w' => O.fldA fl44_0 (by decide) rfl) ?_
  refine RD.q rfl rfl rfl rfl (fun w' hf => O.loadN (cs := (p13.Xo.cs)) ag42 rfl (Cs.addsN [0] ((hM.bx (i := 0) rfl).fut hf) rfl)) ?_
  refine Xx hF fun y46 hx47 hF => ?_
  refine RD.mcall rfl rfl trivial Tryz.func42 bd42 rfl rfl (UT _ _ _ y30.2.Xf _ _ (hM.lent [2, 3] rfl (by decide)) p13.Xo _ hx47) fun v w48 hv => ?_
  obtain ⟨A50, c51, rfl, hN49⟩ := hv
  refine ⟨fun h => (by cases h), ?_⟩
  replace hM := hM.callL [2, 3] [0, 1, 4, 5] rfl rfl (by decide) rfl hN49
  refine RD.p rfl rfl rfl rfl (fun w' => O.move rfl) ?_
  refine RD.p rfl rfl rfl rfl (fun w' => O.ext rfl rfl) ?_
  refine RD.p rfl rfl rfl rfl (fun w' => O.ext rfl rfl) ?_
  refine RD.p rfl rfl rfl rfl (fun w' => O.assign rfl) ?_
  refine RD.p rfl rfl rfl rfl (fun w' => O.assign rfl) (RD.nil (KQ.thn hQ45 ?_))
  refine sr fun Q53 hQ53 => ?_
  refine vm rfl rfl (RL.val (O.not rfl) rfl (nt hQ53 ?_))
  refine KC.cond rfl (fun hc => ?_) (fun hc => ?_)
  ·rw [if_pos hc] at hF
   refine KC.region (vm rfl rfl (vm rfl rfl (RL.val (O.fldA fl44_0 (by decide) rfl) rfl ?_)))
   refine RL.val (O.loadN (cs := (p13.Xo.cs)) ag42 rfl (Cs.addsN [0] ((hM.bx (i := 0) rfl)) rfl)) rfl (vm rfl rfl ?_)
   refine Xx hF fun y54 hx55 hF => ?_
   refine RL.call Tryz.func43 bd43 rfl rfl (Xaw _ _ _ (Xl.mk y30.2.XB y30.2.Xb y46.2.2 y30.2.Xh) _ _ _ _ _ (hM.lent [1, 4, 5, 2] rfl (by decide)) p13.Xo class14 _ hx55) fun v w56 hv => ?_
   obtain ⟨g58, A60, c61, A63, c64, A66, c67, rfl, hN57⟩ := hv
   replace hM := hM.callL [1, 4, 5, 2] [0, 3] rfl rfl (by decide) rfl hN57
   refine XZ hF fun hq72 hF => ?_
   refine RL.eff (E.app (enc := Xn) (xs := y30.1) (ys := y54.1) (j := 1) hM rfl sl55 ze62 rfl rfl rfl rfl rfl (hM.rd (i := 6) rfl) (fun _ => One.all rfl) (of_decide_eq_true hq72)) rfl fun v w71 hv => ?_
   clear hM
   obtain ⟨A69, c70, rfl, hM, hf⟩ := hv
   refine va rfl rfl (RL.nil (KQ.Xy ?_))
   replace hM := hM.pick [4, 3, 5, 2, 0, 1] rfl (by decide)
   exact fun a ha => ⟨g58, A60, c61, A63, c64, A69, c70, y54.2.XB, y54.2.Xb.Xz, y54.2.Xb.XI, y54.2.Xb.XA, y54.2.Xb.Xk, y54.2.Xb.Xr, y54.2.Xf.Xp, y54.2.Xf.XG, y54.2.Xh, (y30.1 ++ y54.1), ha.less (Xa rfl (Xa rfl (Xa rfl Xj))), hM, hF⟩
  rw [if_neg (Xv hc)] at hF
  refine KC.skip (KQ.Xy ?_)
  replace hM := hM.pick [5, 4, 2, 1, 0, 3] rfl (by decide)
  exact fun a ha => ⟨g34, A50, c51, A39, c40, A42, c43, y30.2.XB, y30.2.Xb.Xz, y30.2.Xb.XI, y30.2.Xb.XA, y30.2.Xb.Xk, y30.2.Xb.Xr, y46.2.2.Xp, y46.2.2.XG, y30.2.Xh, y30.1, ha.less (Xa rfl (Xa rfl (Xa rfl Xj))), hM, hF⟩
 rintro a w97 ⟨g82, A84, c85, A89, c90, A94, c95, p75, p76, p77, p78, p79, p80, p86, p87, p91, out96, ha, hM, hF⟩
 refine KC.app ha ?_
 clear ha
 unfold Yx at hF
 refine KC.seqH fun Q98 hQ98 => ?_
 replace hM := hM.drewN 1
 refine KC.draw [] [6] [6] [0, 1, 2, 4, 7, 8, 9, 10, 11] (.ofList [0, 1, 2, 3, 4, 5, 6, 7, 8, 9, 10, 11]) moP (by kernel_rfl) ?_
 refine RD.p rfl rfl rfl rfl (fun w' => O.move rfl) ?_
 refine RD.p rfl rfl rfl rfl (fun w' => O.nilp rfl) ?_
 refine RD.p rfl rfl rfl rfl (fun w' => O.fldA fl69_2 (by decide) rfl) ?_
 refine RD.q rfl rfl rfl rfl (fun w' hf => O.load sc63 rfl (Cs.adds [6] ((hM.bx (i := 3) rfl).fut hf) rfl)) ?_
 refine RD.p rfl rfl rfl rfl (fun w' => O.fldA fl44_0 (by decide) rfl) ?_
 refine RD.q rfl rfl rfl rfl (fun w' hf => O.loadN (cs := (p13.Xo.cs)) ag42 rfl (Cs.addsN [0] ((hM.bx (i := 4) rfl).fut hf) rfl)) ?_
 refine Xx hF fun y99 hx100 hF => ?_
 refine RD.mcall rfl rfl trivial Tryz.func42 bd42 rfl rfl (UT _ _ _ (Xw.mk p86 p87) _ _ (hM.lent [1, 0] rfl (by decide)) p13.Xo _ hx100) fun v w101 hv => ?_
 obtain ⟨A103, c104, rfl, hN102⟩ := hv
 refine ⟨fun h => (by cases h), ?_⟩
 replace hM := hM.callL [1, 0] [2, 3, 4, 5] rfl rfl (by decide) rfl hN102
 refine RD.p rfl rfl rfl rfl (fun w' => O.move rfl) ?_
 refine RD.p rfl rfl rfl rfl (fun w' => O.ext rfl rfl) ?_
 refine RD.p rfl rfl rfl rfl (fun w' => O.ext rfl rfl) ?_
 refine RD.p rfl rfl rfl rfl (fun w' => O.assign rfl) ?_
 refine RD.p rfl rfl rfl rfl (fun w' => O.assign rfl) (RD.nil (KQ.thn hQ98 ?_))
 refine KC.cut (fun a w147 => ∃ (g132 : Nat) (rv133 : Bool) (rv134 : List Int) (rv135 : Bool) (rv136 : List Int) (rv137 rv138 rv139 rv140 rv141 rv142 rv143 rv144 rv145 rv146 : Int), Kn 113 [(0, .pointer (some ⟨g2, 0, none⟩)), (5, .pointer (some ⟨g18, 0, none⟩)), (10, .slice A94 (out96).length c95), (13, v64 y99.1), (15, .pointer (some ⟨g132, 0, none⟩))] a ∧ Mem w [some g2, some g4, rblk A6 c7, rblk A9 c10] w147 [.row A103 c104 140 39 (y99.2.2.Xp).length ((y99.2.2.Xp).flatMap Xt), .box g82 119 [.slice A103 (y99.2.2.Xp).length c104, vI y99.2.2.XG], .row A89 c90 62 44 (p91).length ((p91).flatMap Xn), .box g2 tg12 [v64 p75, vI p76, v64 p77, v64 p78, v64 p79, v64 p80, .pointer (some ⟨g82, 0, none⟩), .slice A89 (p91).length c90], .box g18 44 (p13.cs), .row A94 c95 62 44 (out96).length ((out96).flatMap Xn), .box g132 62 (vB rv133 :: (a16 rv134 ++ (vB rv135 :: (a16 rv136 ++ [v8 rv137, v16 rv138, v16 rv139, v64 rv140, v64 rv141, v64 rv142, v64 rv143, v8 rv144, v8 rv145, v8 rv146]))))] ∧ J2 p13 p75 p76 p77 p78 p79 p80 p91 out96 y99 rv133 rv134 rv135 rv136 rv137 rv138 rv139 rv140 rv141 rv142 rv143 rv144 rv145 rv146 = some r) ?_ ?_
 ·replace hM := hM.drewN 1
  refine KC.draw [] [14] [12, 13, 14] [0, 1, 2, 4, 8, 9, 10] (.cons 0 (.cons 1 (.cons 2 (.cons 3 (.cons 4 (.cons 5 (.cons 6 (.cons 7 (.cons 8 (.cons 9 (.cons 10 (.cons 11 (.alt 12 (.ofList [13, 14]) 13 (.ofList [12, 14])))))))))))))) moP (by kernel_rfl) ?_
  refine RD.p rfl rfl rfl rfl (fun w' => O.move rfl) ?_
  refine RD.p rfl rfl rfl rfl (fun w' => O.nilp rfl) ?_
  refine RD.p rfl rfl rfl rfl (fun w' => O.fldA fl69_3 (by decide) rfl) ?_
  refine RD.q rfl rfl rfl rfl (fun w' hf => O.load sc55 rfl (Cs.adds [7] ((hM.bx (i := 1) rfl).fut hf) rfl)) ?_
  refine RD.p rfl rfl rfl rfl (fun w' => O.move rfl) ?_
  refine Xx hF fun xv108 hx107 hF => ?_
  have hA106 := Rd.atN (f := Xn) (s := 44) (fun _ => rfl) (by decide) (hM.rd (i := 0) rfl) hx107
  refine RD.q rfl rfl rfl rfl (fun w' hf => O.idxA sl55 (hA106.fut hf) rfl rfl) ?_
  refine RD.q rfl rfl rfl rfl (fun w' hf => O.loadN (cs := (xv108.cs)) ag62 rfl (hA106.fut hf).cells) ?_
  refine RD.q rfl rfl rfl rfl (fun w' hf => O.loadN (cs := (p13.cs)) ag44 rfl (Cs.addsN [] ((hM.bx (i := 2) rfl).fut hf) rfl)) ?_
  refine RD.p rfl rfl rfl rfl (fun w' => O.move rfl) ?_
  refine RD.p rfl rfl rfl rfl (fun w' => O.nilp rfl) ?_
  refine RD.p rfl rfl rfl rfl (fun w' => O.fldA fl69_0 (by decide) rfl) ?_
  refine RD.q rfl rfl rfl rfl (fun w' hf => O.load sc22 rfl (Cs.adds [0] ((hM.bx (i := 1) rfl).fut hf) rfl)) ?_
  refine RD.alt ?_ ?_
  ·refine Xx hF fun y109 hx110 hF => ?_
   refine RD.mcall rfl rfl trivial Tryz.func44 bd44 rfl rfl (VP _ xv108 p13 p75 _ hx110) fun v w111 hv => ?_
   obtain ⟨rfl, hN112⟩ := hv
   refine ⟨fun _ => hN112.fut, ?_⟩
   replace hM := hM.call0 hN112
   refine RD.meff rfl rfl (E.alloc hM ze62) rfl fun v w114 hv => ?_
   clear hM
   obtain ⟨g113, rfl, hM, hf⟩ := hv
   refine ⟨fun _ => hf, ?_⟩
   refine RD.meffs rfl rfl rfl (E.stB (j := 6) (off := 0) (vs := (y109.cs)) (cs' := (y109.cs)) hM rfl sz62 rfl (XX [] rfl) rfl rfl (One.all rfl) rfl rfl) fun w116 hM1 => ?_
   clear hM
   have hM := hM1
   clear hM1
   refine RD.nil (KQ.Xy ?_)
   replace hM := hM.pick [5, 4, 0, 1, 2, 3, 6] rfl (by decide)
   exact fun a ha => ⟨g113, y109.Xo.XL.YQ, y109.Xo.XL.f_B, y109.Xo.XN.YQ, y109.Xo.XN.f_B, y109.Xo.X2, y109.Xo.X6, y109.Xo.X1, y109.Xk, y109.Xr, y109.X4, y109.Ya, y109.XO, y109.X9, y109.XU, ha.less (Xa rfl (Xa rfl (Xa rfl (Xa rfl (Xa rfl Xj))))), hM, hF⟩
  refine RD.meff rfl rfl (E.alloc hM ze62) rfl fun v w118 hv => ?_
  clear hM
  obtain ⟨g117, rfl, hM, hf⟩ := hv
  refine ⟨fun _ => hf, ?_⟩
  refine Xx hF fun y120 hx121 hF => ?_
  refine RD.mcall rfl rfl trivial Tryz.func44 bd44 rfl rfl (VP _ xv108 p13 p75 _ hx121) fun v w122 hv => ?_
  obtain ⟨rfl, hN123⟩ := hv
  refine ⟨fun _ => hN123.fut, ?_⟩
  replace hM := hM.call0 hN123
  refine RD.meffs rfl rfl rfl (E.stB (j := 6) (off := 0) (vs := (y120.cs)) (cs' := (y120.cs)) hM rfl sz62 rfl (XX [] rfl) rfl rfl (One.all rfl) rfl rfl) fun w124 hM1 => ?_
  clear hM
  have hM := hM1
  clear hM1
  refine RD.nil (KQ.Xy ?_)
  replace hM := hM.pick [5, 4, 0, 1, 2, 3, 6] rfl (by decide)
  exact fun a ha => ⟨g117, y120.Xo.XL.YQ, y120.Xo.XL.f_B, y120.Xo.XN.YQ, y120.Xo.XN.f_B, y120.Xo.X2, y120.Xo.X6, y120.Xo.X1, y120.Xk, y120.Xr, y120.X4, y120.Ya, y120.XO, y120.X9, y120.XU, ha.less (Xa rfl (Xa rfl (Xa rfl (Xa rfl (Xa rfl Xj))))), hM, hF⟩
 rintro a w147 ⟨g132, rv133, rv134, rv135, rv136, rv137, rv138, rv139, rv140, rv141, rv142, rv143, rv144, rv145, rv146, ha, hM, hF⟩
 refine KC.app ha ?_
 clear ha
 unfold J2 at hF
 refine KC.seqH fun Q148 hQ148 => ?_
 replace hM := hM.drewN 1
 refine KC.draw [] [7] [7] [0, 1, 2, 4] (.ofList [0, 1, 2, 3, 4, 5, 6, 7]) moP (by kernel_rfl) ?_
 refine RD.p rfl rfl rfl rfl (fun w' => O.move rfl) ?_
 refine RD.p rfl rfl rfl rfl (fun w' => O.nilp rfl) ?_
 refine RD.p rfl rfl rfl rfl (fun w' => O.fldA fl69_3 (by decide) rfl) ?_
 refine RD.q rfl rfl rfl rfl (fun w' hf => O.load sc55 rfl (Cs.adds [7] ((hM.bx (i := 3) rfl).fut hf) rfl)) ?_
 refine RD.p rfl rfl rfl rfl (fun w' => O.move rfl) ?_
 refine RD.q rfl rfl rfl rfl (fun w' hf => O.loadN (cs := (vB rv133 :: (a16 rv134 ++ (vB rv135 :: (a16 rv136 ++ [v8 rv137, v16 rv138, v16 rv139, v64 rv140, v64 rv141, v64 rv142, v64 rv143, v8 rv144, v8 rv145, v8 rv146]))))) ag62 rfl (Cs.addsN [] ((hM.bx (i := 6) rfl).fut hf) rfl)) ?_
 refine Xx hF fun xv151 hx150 hF => ?_
 have hA149 := Rd.atN (f := Xn) (s := 44) (fun _ => rfl) (by decide) (hM.rd (i := 2) rfl) hx150
 refine RD.q rfl rfl rfl rfl (fun w' hf => O.idxA sl55 (hA149.fut hf) rfl rfl) ?_
 refine RD.meffs rfl rfl rfl (E.stR (enc := Xn) (j := 2) (off := 0) (vs := (vB rv133 :: (a16 rv134 ++ (vB rv135 :: (a16 rv136 ++ [v8 rv137, v16 rv138, v16 rv139, v64 rv140, v64 rv141, v64 rv142, v64 rv143, v8 rv144, v8 rv145, v8 rv146]))))) (x' := (Xc.mk (Xe.mk (Xd.mk rv133 rv134) (Xd.mk rv135 rv136) rv137 rv138 rv139) rv140 rv141 rv142 rv143 rv144 rv145 rv146)) hM rfl (fun _ => rfl) hx150 sz62 rfl (addsR_eq [] rfl) rfl rfl (One.all rfl) rfl rfl) fun w152 hM1 => ?_
 clear hM
 obtain ⟨hM, hn153⟩ := hM1
 refine RD.reslot (t := 72) rfl hn153 ?_
 replace hM := hM.rebox (i := 3) (cs' := [v64 p75, vI p76, v64 p77, v64 p78, v64 p79, v64 p80, .pointer (some ⟨g82, 0, none⟩), .slice A89 ((p91.set (y99.1 : Int).toNat (Xc.mk (Xe.mk (Xd.mk rv133 rv134) (Xd.mk rv135 rv136) rv137 rv138 rv139) rv140 rv141 rv142 rv143 rv144 rv145 rv146))).length c90]) rfl (by rw [← hn153])
 refine RD.nil (KQ.thn hQ148 ?_)
 refine KC.cut (fun a w229 => ∃ (g215 : Nat) (A217 : Option Addr) (c218 : Nat) (A222 : Option Addr) (c223 : Nat) (A226 : Option Addr) (c227 : Nat) (p208 p209 p210 p211 p212 p213 : Int) (p219 : List Xm) (p220 : Int) (p224 out228 : List Xc), Kn 113 [(10, .slice A226 (out228).length c227)] a ∧ Mem w [some g2, some g4, rblk A6 c7, rblk A9 c10] w229 [.row A217 c218 140 39 (p219).length ((p219).flatMap Xt), .box g215 119 [.slice A217 (p219).length c218, vI p220], .row A222 c223 62 44 (p224).length ((p224).flatMap Xn), .box g2 tg12 [v64 p208, vI p209, v64 p210, v64 p211, v64 p212, v64 p213, .pointer (some ⟨g215, 0, none⟩), .slice A222 (p224).length c223], .row A226 c227 62 44 (out228).length ((out228).flatMap Xn)] ∧ Z4 p208 p209 p210 p211 p212 p213 p219 p220 p224 out228 = some r) ?_ ?_
 ·refine KC.block ?_
  refine sr fun Q154 hQ154 => ?_
  refine RL.val (O.loadN (cs := (p13.cs)) ag44 rfl (Cs.addsN [] ((hM.bx (i := 4) rfl)) rfl)) rfl ?_
  refine Xx hF fun y155 hx156 hF => ?_
  refine RL.call Tryz.func45 bd45 rfl rfl (Xbi _ p13 _ hx156) fun v w157 hv => ?_
  obtain ⟨rfl, hN158⟩ := hv
  replace hM := hM.call0 hN158
  refine va rfl rfl (nt hQ154 ?_)
  refine KC.cond rfl (fun hc => ?_) (fun hc => ?_)
  ·rw [if_pos hc] at hF
   refine KC.region (vm rfl rfl (vm rfl rfl (RL.val (O.fldA fl44_0 (by decide) rfl) rfl ?_)))
   refine RL.val (O.loadN (cs := (p13.Xo.cs)) ag42 rfl (Cs.addsN [0] ((hM.bx (i := 4) rfl)) rfl)) rfl ?_
   refine Xx hF fun y159 hx160 hF => ?_
   refine RL.call Tryz.func46 bd46 rfl rfl (Kh _ _ _ (Xl.mk p75 (Xg.mk p76 p77 p78 p79 p80) y99.2.2 (p91.set (y99.1 : Int).toNat (Xc.mk (Xe.mk (Xd.mk rv133 rv134) (Xd.mk rv135 rv136) rv137 rv138 rv139) rv140 rv141 rv142 rv143 rv144 rv145 rv146))) _ _ _ _ _ (hM.lent [3, 1, 0, 2] rfl (by decide)) p13.Xo 3 _ hx160) fun v w161 hv => ?_
   obtain ⟨g163, A165, c166, A168, c169, rfl, hN162⟩ := hv
   replace hM := hM.callL [3, 1, 0, 2] [4, 5, 6] rfl rfl (by decide) rfl hN162
   refine RL.eff (E.bsl (enc := Xn) (xs := ([y159.1] : List Xc)) hM sl55 ze62 rfl rfl rfl (fun _ => rfl) rfl (by kernel_rfl) rfl) rfl fun v w171 hv => ?_
   clear hM
   obtain ⟨A172, rfl, hM, hf⟩ := hv
   refine XZ hF fun hq177 hF => ?_
   refine RL.eff (E.app (enc := Xn) (xs := out96) (ys := ([y159.1] : List Xc)) (j := 1) hM rfl sl55 ze62 rfl rfl rfl rfl rfl (hM.rd (i := 7) rfl) (fun _ => One.all rfl) (of_decide_eq_true hq177)) rfl fun v w176 hv => ?_
   clear hM
   obtain ⟨A174, c175, rfl, hM, hf⟩ := hv
   refine va rfl rfl (RL.nil (KQ.blk_n (KQ.Xy ?_)))
   replace hM := hM.pick [5, 4, 6, 3, 1] rfl (by decide)
   exact fun a ha => ⟨g163, A165, c166, A168, c169, A174, c175, y159.2.XB, y159.2.Xb.Xz, y159.2.Xb.XI, y159.2.Xb.XA, y159.2.Xb.Xk, y159.2.Xb.Xr, y159.2.Xf.Xp, y159.2.Xf.XG, y159.2.Xh, (out96 ++ ([y159.1] : List Xc)), ha.less (Xa rfl Xj), hM, hF⟩
  rw [if_neg (Xv hc)] at hF
  refine KC.cut (fun a w186 => ∃ (t185 : Bool), Kn 113 [(0, .pointer (some ⟨g2, 0, none⟩)), (5, .pointer (some ⟨g18, 0, none⟩)), (10, .slice A94 (out96).length c95), (86, vB t185)] a ∧ Mem w [some g2, some g4, rblk A6 c7, rblk A9 c10] w186 [.row A103 c104 140 39 (y99.2.2.Xp).length ((y99.2.2.Xp).flatMap Xt), .box g82 119 [.slice A103 (y99.2.2.Xp).length c104, vI y99.2.2.XG], .row A89 c90 62 44 ((p91.set (y99.1 : Int).toNat (Xc.mk (Xe.mk (Xd.mk rv133 rv134) (Xd.mk rv135 rv136) rv137 rv138 rv139) rv140 rv141 rv142 rv143 rv144 rv145 rv146))).length (((p91.set (y99.1 : Int).toNat (Xc.mk (Xe.mk (Xd.mk rv133 rv134) (Xd.mk rv135 rv136) rv137 rv138 rv139) rv140 rv141 rv142 rv143 rv144 rv145 rv146))).flatMap Xn), .box g2 tg12 [v64 p75, vI p76, v64 p77, v64 p78, v64 p79, v64 p80, .pointer (some ⟨g82, 0, none⟩), .slice A89 ((p91.set (y99.1 : Int).toNat (Xc.mk (Xe.mk (Xd.mk rv133 rv134) (Xd.mk rv135 rv136) rv137 rv138 rv139) rv140 rv141 rv142 rv143 rv144 rv145 rv146))).length c90], .box g18 44 (p13.cs), .row A94 c95 62 44 (out96).length ((out96).flatMap Xn)] ∧ J4 p13 p75 p76 p77 p78 p79 p80 p91 out96 y99 rv133 rv134 rv135 rv136 rv137 rv138 rv139 rv140 rv141 rv142 rv143 rv144 rv145 rv146 t185 = some r) ?_ ?_
  ·replace hM := hM.drewN 1
   refine KC.draw [] [] [] [0, 2, 3, 4, 5, 7, 8, 9, 11, 12, 13, 14, 16, 17, 18] (.ofList [0, 1, 2, 3, 4, 5, 6, 7, 8, 9, 10, 11, 12, 13, 14, 15, 16, 17, 18]) moP (by kernel_rfl) ?_
   refine RD.p rfl rfl rfl rfl (fun w' => O.fldA fl62_1 (by decide) rfl) ?_
   refine RD.q rfl rfl rfl rfl (fun w' hf => O.load sc22 rfl (Cs.adds [37] ((hM.bx (i := 6) rfl).fut hf) rfl)) ?_
   refine RD.p rfl rfl rfl rfl (fun w' => O.move rfl) ?_
   refine RD.p rfl rfl rfl rfl (fun w' => O.nilp rfl) ?_
   refine RD.p rfl rfl rfl rfl (fun w' => O.fldA fl69_1 (by decide) rfl) ?_
   refine RD.p rfl rfl rfl rfl (fun w' => O.fldA fl24_3 (by decide) rfl) ?_
   refine RD.q rfl rfl rfl rfl (fun w' hf => O.load sc22 rfl (Cs.adds [1, 3] ((hM.bx (i := 3) rfl).fut hf) rfl)) ?_
   refine RD.p rfl rfl rfl rfl (fun w' => O.geq rfl rfl) ?_
   refine RD.p rfl rfl rfl rfl (fun w' => O.move rfl) ?_
   refine RD.bcase (t := 95) rfl (fun hc => ?_) (fun hc => ?_)
   ·rw [if_pos hc] at hF
    refine RD.brun1 [9, 10, 11, 12, 13, 14, 15, 16, 17] 104 true (by kernel_rfl) ?_
    refine RD.p rfl rfl rfl rfl (fun w' => O.assign rfl) (RD.nil (KQ.Xy ?_))
    replace hM := hM.pick [0, 1, 2, 3, 4, 5] rfl (by decide)
    exact fun a ha => ⟨true, ha.less (Xa rfl (Xa rfl (Xa rfl (Xa rfl Xj)))), hM, hF⟩
   rw [if_neg (Xv hc)] at hF
   refine RD.gp rfl rfl rfl rfl rfl rfl (fun w' => O.fldA fl62_2 (by decide) rfl) ?_
   refine RD.gq rfl rfl rfl rfl rfl rfl (fun w' hf => O.load sc22 rfl (Cs.adds [38] ((hM.bx (i := 6) rfl).fut hf) rfl)) ?_
   refine RD.gp rfl rfl rfl rfl rfl rfl (fun w' => O.move rfl) ?_
   refine RD.gp rfl rfl rfl rfl rfl rfl (fun w' => O.nilp rfl) ?_
   refine RD.gp rfl rfl rfl rfl rfl rfl (fun w' => O.fldA fl69_1 (by decide) rfl) ?_
   refine RD.gp rfl rfl rfl rfl rfl rfl (fun w' => O.fldA fl24_4 (by decide) rfl) ?_
   refine RD.gq rfl rfl rfl rfl rfl rfl (fun w' hf => O.load sc22 rfl (Cs.adds [1, 4] ((hM.bx (i := 3) rfl).fut hf) rfl)) ?_
   refine RD.gp rfl rfl rfl rfl rfl rfl (fun w' => O.geq rfl rfl) ?_
   refine RD.p rfl rfl rfl rfl (fun w' => O.pickf rfl rfl) ?_
   refine RD.p rfl rfl rfl rfl (fun w' => O.assign rfl) (RD.nil (KQ.Xy ?_))
   replace hM := hM.pick [0, 1, 2, 3, 4, 5] rfl (by decide)
   exact fun a ha => ⟨(decide (p80 ≤ rv141)), ha.less (Xa rfl (Xa rfl (Xa rfl (Xa rfl Xj)))), hM, hF⟩
  rintro a w186 ⟨t185, ha, hM, hF⟩
  refine KC.app ha ?_
  clear ha
  unfold J4 at hF
  refine KC.cond rfl (fun hc => ?_) (fun hc => ?_)
  ·rw [if_pos hc] at hF
   refine KC.region (vm rfl rfl (vm rfl rfl (RL.val (O.fldA fl44_0 (by decide) rfl) rfl ?_)))
   refine RL.val (O.loadN (cs := (p13.Xo.cs)) ag42 rfl (Cs.addsN [0] ((hM.bx (i := 4) rfl)) rfl)) rfl ?_
   refine Xx hF fun y187 hx188 hF => ?_
   refine RL.call Tryz.func46 bd46 rfl rfl (Kh _ _ _ (Xl.mk p75 (Xg.mk p76 p77 p78 p79 p80) y99.2.2 (p91.set (y99.1 : Int).toNat (Xc.mk (Xe.mk (Xd.mk rv133 rv134) (Xd.mk rv135 rv136) rv137 rv138 rv139) rv140 rv141 rv142 rv143 rv144 rv145 rv146))) _ _ _ _ _ (hM.lent [3, 1, 0, 2] rfl (by decide)) p13.Xo 4 _ hx188) fun v w189 hv => ?_
   obtain ⟨g191, A193, c194, A196, c197, rfl, hN190⟩ := hv
   replace hM := hM.callL [3, 1, 0, 2] [4, 5] rfl rfl (by decide) rfl hN190
   refine RL.eff (E.bsl (enc := Xn) (xs := ([y187.1] : List Xc)) hM sl55 ze62 rfl rfl rfl (fun _ => rfl) rfl (by kernel_rfl) rfl) rfl fun v w199 hv => ?_
   clear hM
   obtain ⟨A200, rfl, hM, hf⟩ := hv
   refine XZ hF fun hq205 hF => ?_
   refine RL.eff (E.app (enc := Xn) (xs := out96) (ys := ([y187.1] : List Xc)) (j := 1) hM rfl sl55 ze62 rfl rfl rfl rfl rfl (hM.rd (i := 6) rfl) (fun _ => One.all rfl) (of_decide_eq_true hq205)) rfl fun v w204 hv => ?_
   clear hM
   obtain ⟨A202, c203, rfl, hM, hf⟩ := hv
   refine va rfl rfl (RL.nil (KQ.blk_n (KQ.Xy ?_)))
   replace hM := hM.pick [4, 3, 5, 2, 1] rfl (by decide)
   exact fun a ha => ⟨g191, A193, c194, A196, c197, A202, c203, y187.2.XB, y187.2.Xb.Xz, y187.2.Xb.XI, y187.2.Xb.XA, y187.2.Xb.Xk, y187.2.Xb.Xr, y187.2.Xf.Xp, y187.2.Xf.XG, y187.2.Xh, (out96 ++ ([y187.1] : List Xc)), ha.less (Xa rfl Xj), hM, hF⟩
  rw [if_neg (Xv hc)] at hF
  refine KC.skip (KQ.blk_n (KQ.Xy ?_))
  replace hM := hM.pick [0, 1, 2, 3, 5] rfl (by decide)
  exact fun a ha => ⟨g82, A103, c104, A89, c90, A94, c95, p75, p76, p77, p78, p79, p80, y99.2.2.Xp, y99.2.2.XG, (p91.set (y99.1 : Int).toNat (Xc.mk (Xe.mk (Xd.mk rv133 rv134) (Xd.mk rv135 rv136) rv137 rv138 rv139) rv140 rv141 rv142 rv143 rv144 rv145 rv146)), out96, ha.less (Xa rfl Xj), hM, hF⟩
 rintro a w229 ⟨g215, A217, c218, A222, c223, A226, c227, p208, p209, p210, p211, p212, p213, p219, p220, p224, out228, ha, hM, hF⟩
 refine KC.app ha ?_
 clear ha
 unfold Z4 at hF
 refine sr fun Q230 hQ230 => ?_
 refine vm rfl rfl (va rfl rfl (va rfl rfl (nt hQ230 (KC.ret ?_))))
 have hE := Option.some.inj hF
 clear hF
 subst hE
 replace hM := hM.pick [3, 1, 0, 2, 4] rfl (by decide)
 refine KQ.rets Tryz.results16 (RVs.cons (RV.tm rfl) (RVs.cons (RV.tm rfl) RVs.nil)) ?_
 exact ⟨_, rfl, g215, A217, c218, A222, c223, A226, c227, rfl, hM⟩
theorem U9 (w : World) (g2 : Nat) (tg12 : TypeId) (cv1 : Xl) (g4 : Nat) (A6 : Option Addr) (c7 : Nat) (A9 : Option Addr) (c10 : Nat) (hL13 : Lent w [.box g2 tg12 (v64 cv1.XB :: (cv1.Xb.cs ++ [.pointer (some ⟨g4, 0, none⟩), .slice A9 (cv1.Xh).length c10])), .box g4 119 [.slice A6 (cv1.Xf.Xp).length c7, vI cv1.Xf.XG], .row A6 c7 140 39 (cv1.Xf.Xp).length ((cv1.Xf.Xp).flatMap Xt), .row A9 c10 62 44 (cv1.Xh).length ((cv1.Xh).flatMap Xn)]) (r : Int × Bool × Xl) (hF : J0 cv1 = some r) :
  CallsR Tryz.prog 17 [.pointer (some ⟨g2, 0, none⟩)] w (fun v w' => ∃ (g0 : Nat) (A1 : Option Addr) (c1 : Nat) (A2 : Option Addr) (c2 : Nat), v = .tuple #[v64 r.1, vB r.2.1] ∧ Mem w [some g2, some g4, rblk A6 c7, rblk A9 c10] w' [.box g2 tg12 (v64 r.2.2.XB :: (r.2.2.Xb.cs ++ [.pointer (some ⟨g0, 0, none⟩), .slice A2 (r.2.2.Xh).length c2])), .box g0 119 [.slice A1 (r.2.2.Xf.Xp).length c1, vI r.2.2.Xf.XG], .row A1 c1 140 39 r.2.2.Xf.Xp.length (r.2.2.Xf.Xp.flatMap Xt), .row A2 c2 62 44 r.2.2.Xh.length (r.2.2.Xh.flatMap Xn)]) := by
 refine XJ Tryz.func17 rfl Tryz.ntmps17 rfl ?_
 have hM : Mem w [some g2, some g4, rblk A6 c7, rblk A9 c10] w [.box g2 tg12 (v64 cv1.XB :: (cv1.Xb.cs ++ [.pointer (some ⟨g4, 0, none⟩), .slice A9 (cv1.Xh).length c10])), .box g4 119 [.slice A6 (cv1.Xf.Xp).length c7, vI cv1.Xf.XG], .row A6 c7 140 39 (cv1.Xf.Xp).length ((cv1.Xf.Xp).flatMap Xt), .row A9 c10 62 44 (cv1.Xh).length ((cv1.Xh).flatMap Xn)] := Mem.lendN hL13
 unfold J0 at hF
 refine sr fun Q14 hQ14 => ?_
 refine va rfl rfl (va rfl rfl (nt hQ14 ?_))
 refine KC.seqH fun Q15 hQ15 => ?_
 refine sr fun Q16 hQ16 => ?_
 refine vm rfl rfl (RL.val (O.peqn Tryz.underlying27 rfl rfl) rfl (nt hQ16 (KC.condF rfl (KC.skip (KQ.thn hQ15 ?_)))))
 refine KC.seqH fun Q17 hQ17 => ?_
 refine sr fun Q18 hQ18 => ?_
 refine vm rfl rfl (RL.val (O.nilp rfl) rfl (RL.val (O.fldA fl69_3 (by decide) rfl) rfl ?_))
 refine RL.val (O.load sc55 rfl (Cs.adds [7] ((hM.bx (i := 0) rfl)) rfl)) rfl (RL.val (O.len sl55 rfl) rfl (vm rfl rfl (nt hQ18 (KC.block ?_))))
 refine KC.loop (fun k89 a w87 => ∃ (atv84 : Int) (ok85 : Bool) (t86 : Int), Kn 32 [(0, .pointer (some ⟨g2, 0, none⟩)), (2, v64 atv84), (3, vB ok85), (12, .slice A9 (cv1.Xh).length c10), (13, vI (cv1.Xh.length : Int)), (14, vI t86)] a ∧ Mem w [some g2, some g4, rblk A6 c7, rblk A9 c10] w87 [.row A6 c7 140 39 (cv1.Xf.Xp).length ((cv1.Xf.Xp).flatMap Xt), .box g4 119 [.slice A6 (cv1.Xf.Xp).length c7, vI cv1.Xf.XG], .row A9 c10 62 44 (cv1.Xh).length ((cv1.Xh).flatMap Xn), .box g2 tg12 (v64 cv1.XB :: (cv1.Xb.cs ++ [.pointer (some ⟨g4, 0, none⟩), .slice A9 (cv1.Xh).length c10]))] ∧ Y5 cv1 k89 atv84 ok85 t86 = some r) ?_ ?_
 ·replace hM := hM.pick [2, 1, 3, 0] rfl (by decide)
  exact fun a ha => ⟨fuel0, 0, false, 0, ha.less (Xa rfl (Xa rfl (Xa rfl (Xa rfl (Xa rfl (Xa rfl Xj)))))), hM, hF⟩
 rintro k89 a w87 ⟨atv84, ok85, t86, ha, hM, hF⟩
 refine KC.app ha ?_
 clear ha
 cases k89 with
 | zero => exact (Yl hF).elim
 | succ k89 =>
 have hF : JY (Y5 cv1 k89) cv1 atv84 ok85 t86 = some r := hF
 unfold JY at hF
 refine sr fun Q90 hQ90 => ?_
 refine RL.val (O.lss rfl rfl) rfl (nt hQ90 ?_)
 refine KC.seqH fun Q91 hQ91 => ?_
 refine KC.cond rfl (fun hc => ?_) (fun hc => ?_)
 ·rw [if_pos hc] at hF
  refine KC.skip (KQ.thn hQ91 ?_)
  refine KC.cut (fun a w117 => ∃ (atv115 : Int) (ok116 : Bool), Kn 32 [(0, .pointer (some ⟨g2, 0, none⟩)), (2, v64 atv115), (3, vB ok116), (12, .slice A9 (cv1.Xh).length c10), (13, vI (cv1.Xh.length : Int)), (14, vI t86)] a ∧ Mem w [some g2, some g4, rblk A6 c7, rblk A9 c10] w117 [.row A6 c7 140 39 (cv1.Xf.Xp).length ((cv1.Xf.Xp).flatMap Xt), .box g4 119 [.slice A6 (cv1.Xf.Xp).length c7, vI cv1.Xf.XG], .row A9 c10 62 44 (cv1.Xh).length ((cv1.Xh).flatMap Xn), .box g2 tg12 (v64 cv1.XB :: (cv1.Xb.cs ++ [.pointer (some ⟨g4, 0, none⟩), .slice A9 (cv1.Xh).length c10]))] ∧ JP t86 (Y5 cv1 k89) atv115 ok116 = some r) ?_ ?_
  ·refine KC.block ?_
   refine sr fun Q92 hQ92 => ?_
   refine Xx hF fun xv95 hx94 hF => ?_
   have hA93 := Rd.atN (f := Xn) (s := 44) (fun _ => rfl) (by decide) (hM.rd (i := 2) rfl) hx94
   refine RL.val (O.idxA sl55 (hA93) rfl rfl) rfl (RL.val (O.loadN (cs := (xv95.cs)) ag62 rfl (hA93).cells) rfl ?_)
   refine RL.eff (E.alloc hM ze62) rfl fun v w97 hv => ?_
   clear hM
   obtain ⟨g96, rfl, hM, hf⟩ := hv
   refine RL.effs (E.stB (j := 4) (off := 0) (vs := (xv95.cs)) (cs' := (xv95.cs)) hM rfl sz62 rfl (XX [] rfl) rfl rfl (One.all rfl) rfl rfl) fun w99 hM1 => ?_
   clear hM
   have hM := hM1
   clear hM1
   refine nt hQ92 ?_
   refine sr fun Q100 hQ100 => ?_
   refine vm rfl rfl (RL.val (O.loadN (cs := (xv95.cs)) ag62 rfl (Cs.addsN [] ((hM.bx (i := 4) rfl)) rfl)) rfl ?_)
   refine Xx hF fun y101 hx102 hF => ?_
   refine RL.call Tryz.func47 bd47 rfl rfl (KR _ _ _ cv1 _ _ (hM.lent [3] rfl (by decide)) xv95 _ hx102) fun v w103 hv => ?_
   obtain ⟨rfl, hN104⟩ := hv
   replace hM := hM.call0 hN104
   refine va rfl rfl (nt hQ100 ?_)
   replace hM := hM.pick [0, 1, 2, 3] rfl (by decide)
   refine KC.cut (fun a w110 => ∃ (t109 : Bool), Kn 32 [(0, .pointer (some ⟨g2, 0, none⟩)), (2, v64 atv84), (3, vB ok85), (6, v64 y101), (12, .slice A9 (cv1.Xh).length c10), (13, vI (cv1.Xh.length : Int)), (14, vI t86), (27, vB t109)] a ∧ Mem w [some g2, some g4, rblk A6 c7, rblk A9 c10] w110 [.row A6 c7 140 39 (cv1.Xf.Xp).length ((cv1.Xf.Xp).flatMap Xt), .box g4 119 [.slice A6 (cv1.Xf.Xp).length c7, vI cv1.Xf.XG], .row A9 c10 62 44 (cv1.Xh).length ((cv1.Xh).flatMap Xn), .box g2 tg12 (v64 cv1.XB :: (cv1.Xb.cs ++ [.pointer (some ⟨g4, 0, none⟩), .slice A9 (cv1.Xh).length c10]))] ∧ JT atv84 ok85 t86 (Y5 cv1 k89) y101 t109 = some r) ?_ ?_
   ·refine KC.region (vm rfl rfl (RL.val (O.not rfl) rfl (vm rfl rfl ?_)))
    refine RL.bcase (t := 23) rfl (fun hc => ?_) (fun hc => ?_)
    ·rw [if_pos hc] at hF
     refine RL.gskip rfl rfl rfl rfl (RL.gskip rfl rfl rfl rfl (RL.gskip rfl rfl rfl rfl (RL.val (O.pickt rfl rfl) rfl (RL.nil (KQ.Xy ?_)))))
     exact fun a ha => ⟨true, ha.less (Xa rfl (Xa rfl (Xa rfl (Xa rfl (Xa rfl (Xa rfl (Xa rfl (Xa rfl Xj)))))))), hM, hF⟩
    rw [if_neg (Xv hc)] at hF
    refine RL.gval rfl rfl (O.move rfl) rfl (RL.gval rfl rfl (O.move rfl) rfl (RL.gval rfl rfl (O.lss rfl rfl) rfl (RL.val (O.pickf rfl rfl) rfl (RL.nil (KQ.Xy ?_)))))
    exact fun a ha => ⟨(decide (y101 < atv84)), ha.less (Xa rfl (Xa rfl (Xa rfl (Xa rfl (Xa rfl (Xa rfl (Xa rfl (Xa rfl Xj)))))))), hM, hF⟩
   rintro a w110 ⟨t109, ha, hM, hF⟩
   refine KC.app ha ?_
   clear ha
   unfold JT at hF
   refine KC.cond rfl (fun hc => ?_) (fun hc => ?_)
   ·rw [if_pos hc] at hF
    refine KC.region (vm rfl rfl (va rfl rfl (va rfl rfl (RL.nil (KQ.blk_n (KQ.Xy ?_))))))
    exact fun a ha => ⟨y101, true, ha.less (Xa rfl (Xa rfl (Xa rfl (Xa rfl (Xa rfl (Xa rfl Xj)))))), hM, hF⟩
   rw [if_neg (Xv hc)] at hF
   refine KC.skip (KQ.blk_n (KQ.Xy ?_))
   exact fun a ha => ⟨atv84, ok85, ha.less (Xa rfl (Xa rfl (Xa rfl (Xa rfl (Xa rfl (Xa rfl Xj)))))), hM, hF⟩
  rintro a w117 ⟨atv115, ok116, ha, hM, hF⟩
  refine KC.app ha ?_
  clear ha
  unfold JP at hF
  refine KC.region (RL.val (O.add rfl rfl) rfl (vm rfl rfl (RL.nil (KQ.Xy ?_))))
  exact fun a ha => ⟨k89, Nat.lt_succ_self k89, atv115, ok116, (IntKind.i64.wrap (t86 + 1)), ha.less (Xa rfl (Xa rfl (Xa rfl (Xa rfl (Xa rfl (Xa rfl Xj)))))), hM, hF⟩
 rw [if_neg (Xv hc)] at hF
 refine KC.exit (KQ.thx hQ91 (KQ.then_x (KQ.blk_x (KQ.thn hQ17 ?_))))
 refine sr fun Q118 hQ118 => ?_
 refine vm rfl rfl (vm rfl rfl (va rfl rfl (va rfl rfl (nt hQ118 (KC.ret ?_)))))
 have hE := Option.some.inj hF
 clear hF
 subst hE
 replace hM := hM.pick [3, 1, 0, 2] rfl (by decide)
 refine KQ.rets Tryz.results17 (RVs.cons (RV.tm rfl) (RVs.cons (RV.tm rfl) RVs.nil)) ?_
 exact ⟨_, rfl, g4, A6, c7, A9, c10, rfl, hM⟩
end Go.Proofs.YtkpnocgfhipidaaGreat
