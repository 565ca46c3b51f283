/- Printed by a program of this claim: each call returns what the plain function of its name gives. -/
import Derived.Test.YtkpnocgfhipidaaGreatW1
import Derived.Test.YtkpnocgfhipidaaGreatW9
import Derived.Test.YtkpnocgfhipidaaGreatW10
import Derived.Test.YtkpnocgfhipidaaGreatW11
set_option linter.unusedVariables false
set_option maxRecDepth 100000
set_option maxHeartbeats 40000000
namespace Go.Proofs.YtkpnocgfhipidaaGreat
open Go Go.Ox Go.RowKit
theorem Xaf (w : World) (g2 : Nat) (tg7 : TypeId) (cv1 : Xq) (A4 : Option Addr) (c5 : Nat) (hL11 : Lent w [.box g2 tg7 (v64 cv1.XK :: (cv1.Xu.cs ++ [.slice A4 (cv1.f_L).length c5])), .row A4 c5 89 44 (cv1.f_L).length ((cv1.f_L).flatMap Xs)]) (p8 : Zd) (class9 tick10 : Int) (r : (List Xi) × Int × Xq) (hF : Yo cv1 p8 class9 tick10 = some r) :
  CallsR Tryz.prog 21 [.pointer (some ⟨g2, 0, none⟩), .agg (p8.cs).toArray, v8 class9, v64 tick10] w (fun v w' => ∃ (A0 : Option Addr) (c0 : Nat) (A1 : Option Addr) (c1 : Nat), v = .tuple #[.slice A1 (r.1).length c1, vI r.2.1] ∧ Mem w [some g2, rblk A4 c5] w' [.box g2 tg7 (v64 r.2.2.XK :: (r.2.2.Xu.cs ++ [.slice A0 (r.2.2.f_L).length c0])), .row A0 c0 89 44 r.2.2.f_L.length (r.2.2.f_L.flatMap Xs), .row A1 c1 89 44 r.1.length (r.1.flatMap Xs)]) := by
 refine XJ Tryz.func21 rfl Tryz.ntmps21 rfl ?_
 have hM : Mem w [some g2, rblk A4 c5] w [.box g2 tg7 (v64 cv1.XK :: (cv1.Xu.cs ++ [.slice A4 (cv1.f_L).length c5])), .row A4 c5 89 44 (cv1.f_L).length ((cv1.f_L).flatMap Xs)] := Mem.lendN hL11
 unfold Yo at hF
 refine sr fun Q12 hQ12 => ?_
 refine RL.eff (E.box (vs := (p8.cs)) hM rfl rfl) rfl fun v w14 hv => ?_
 clear hM
 obtain ⟨g13, rfl, hM, hf⟩ := hv
 refine va rfl rfl (va rfl rfl (nt hQ12 ?_))
 refine KC.seqH fun Q16 hQ16 => ?_
 refine sr fun Q17 hQ17 => ?_
 refine RL.val (O.fldA fl79_0 (by decide) rfl) rfl ?_
 refine RL.val (O.loadN (cs := (p8.Xo.cs)) ag77 rfl (Cs.addsN [0] ((hM.bx (i := 2) rfl)) rfl)) rfl ?_
 refine Xx hF fun y18 hx19 hF => ?_
 refine RL.call Tryz.func58 bd58 rfl rfl (XaG _ p8.Xo _ hx19) fun v w20 hv => ?_
 obtain ⟨rfl, hN21⟩ := hv
 replace hM := hM.call0 hN21
 refine RL.val (O.not rfl) rfl (nt hQ17 ?_)
 refine KC.cond rfl (fun hc => ?_) (fun hc => ?_)
 ·rw [if_pos hc] at hF
  refine sr fun Q22 hQ22 => ?_
  refine va rfl rfl (va rfl rfl (nt hQ22 (KC.ret (KQ.thr hQ16 ?_))))
  have hE := Option.some.inj hF
  clear hF
  subst hE
  replace hM := hM.nilrow 89 44
  replace hM := hM.pick [0, 1, 3] rfl (by decide)
  refine KQ.rets Tryz.results21 (RVs.cons (RV.tm rfl) (RVs.cons (RV.tm rfl) RVs.nil)) ?_
  exact ⟨_, rfl, A4, c5, none, 0, rfl, hM⟩
 rw [if_neg (Xv hc)] at hF
 refine KC.skip (KQ.thn hQ16 ?_)
 refine sr fun Q23 hQ23 => ?_
 refine vm rfl rfl (vm rfl rfl ?_)
 refine Xx hF fun y24 hx25 hF => ?_
 refine RL.call Tryz.func24 bd24 rfl rfl (Uv _ _ _ cv1 _ _ (hM.lent [0, 1] rfl (by decide)) tick10 _ hx25) fun v w26 hv => ?_
 obtain ⟨A28, c29, A31, c32, rfl, hN27⟩ := hv
 replace hM := hM.callL [0, 1] [2] rfl rfl (by decide) rfl hN27
 refine va rfl rfl (nt hQ23 ?_)
 refine sr fun Q34 hQ34 => ?_
 refine vm rfl rfl (RL.val (O.fldA fl79_0 (by decide) rfl) rfl ?_)
 refine RL.val (O.loadN (cs := (p8.Xo.cs)) ag77 rfl (Cs.addsN [0] ((hM.bx (i := 0) rfl)) rfl)) rfl ?_
 refine Xx hF fun y35 hx36 hF => ?_
 refine RL.call Tryz.func59 bd59 rfl rfl (Us _ _ _ y24.2 _ _ (hM.lent [1, 2] rfl (by decide)) p8.Xo _ hx36) fun v w37 hv => ?_
 obtain ⟨A39, c40, rfl, hN38⟩ := hv
 replace hM := hM.callL [1, 2] [0, 3] rfl rfl (by decide) rfl hN38
 refine vm rfl rfl (RL.val (O.ext rfl rfl) rfl (RL.val (O.ext rfl rfl) rfl (va rfl rfl (va rfl rfl (nt hQ34 ?_)))))
 refine KC.cut (fun a w74 => ∃ (A66 : Option Addr) (c67 : Nat) (A71 : Option Addr) (c72 : Nat) (p59 p60 p61 p62 p63 p64 : Int) (p68 out73 : List Xi), Kn 119 [(0, .pointer (some ⟨g2, 0, none⟩)), (5, .pointer (some ⟨g13, 0, none⟩)), (10, .slice A71 (out73).length c72)] a ∧ Mem w [some g2, rblk A4 c5] w74 [.row A66 c67 89 44 (p68).length ((p68).flatMap Xs), .box g2 tg7 [v64 p59, vI p60, v64 p61, v64 p62, v64 p63, v64 p64, .slice A66 (p68).length c67], .box g13 79 (p8.cs), .row A71 c72 89 44 (out73).length ((out73).flatMap Xs)] ∧ Yu p8 p59 p60 p61 p62 p63 p64 p68 out73 = some r) ?_ ?_
 ·refine sr fun Q42 hQ42 => ?_
  refine vm rfl rfl (RL.val (O.not rfl) rfl (nt hQ42 ?_))
  refine KC.cond rfl (fun hc => ?_) (fun hc => ?_)
  ·rw [if_pos hc] at hF
   refine KC.region (vm rfl rfl (vm rfl rfl (RL.val (O.fldA fl79_0 (by decide) rfl) rfl ?_)))
   refine RL.val (O.loadN (cs := (p8.Xo.cs)) ag77 rfl (Cs.addsN [0] ((hM.bx (i := 0) rfl)) rfl)) rfl (vm rfl rfl ?_)
   refine Xx hF fun y43 hx44 hF => ?_
   refine RL.call Tryz.func60 bd60 rfl rfl (XaE _ _ _ y35.2.2 _ _ (hM.lent [2, 3] rfl (by decide)) p8.Xo class9 _ hx44) fun v w45 hv => ?_
   obtain ⟨A47, c48, A50, c51, rfl, hN46⟩ := hv
   replace hM := hM.callL [2, 3] [0, 1] rfl rfl (by decide) rfl hN46
   refine XZ hF fun hq56 hF => ?_
   refine RL.eff (E.app (enc := Xs) (xs := y24.1) (ys := y43.1) (j := 1) hM rfl sl70 ze89 rfl rfl rfl rfl rfl (hM.rd (i := 4) rfl) (fun _ => One.all rfl) (of_decide_eq_true hq56)) rfl fun v w55 hv => ?_
   clear hM
   obtain ⟨A53, c54, rfl, hM, hf⟩ := hv
   refine va rfl rfl (RL.nil (KQ.Xy ?_))
   replace hM := hM.pick [3, 2, 0, 1] rfl (by decide)
   exact fun a ha => ⟨A47, c48, A53, c54, y43.2.XK, y43.2.Xu.Xz, y43.2.Xu.XI, y43.2.Xu.XA, y43.2.Xu.Xk, y43.2.Xu.Xr, y43.2.f_L, (y24.1 ++ y43.1), ha.less (Xa rfl (Xa rfl (Xa rfl Xj))), hM, hF⟩
  rw [if_neg (Xv hc)] at hF
  refine KC.skip (KQ.Xy ?_)
  replace hM := hM.pick [3, 2, 0, 1] rfl (by decide)
  exact fun a ha => ⟨A39, c40, A31, c32, y35.2.2.XK, y35.2.2.Xu.Xz, y35.2.2.Xu.XI, y35.2.2.Xu.XA, y35.2.2.Xu.Xk, y35.2.2.Xu.Xr, y35.2.2.f_L, y24.1, ha.less (Xa rfl (Xa rfl (Xa rfl Xj))), hM, hF⟩
 rintro a w74 ⟨A66, c67, A71, c72, p59, p60, p61, p62, p63, p64, p68, out73, ha, hM, hF⟩
 refine KC.app ha ?_
 clear ha
 unfold Yu at hF
 refine sr fun Q75 hQ75 => ?_
 refine vm rfl rfl (RL.val (O.fldA fl79_0 (by decide) rfl) rfl ?_)
 refine RL.val (O.loadN (cs := (p8.Xo.cs)) ag77 rfl (Cs.addsN [0] ((hM.bx (i := 2) rfl)) rfl)) rfl ?_
 refine Xx hF fun y76 hx77 hF => ?_
 refine RL.call Tryz.func59 bd59 rfl rfl (Us _ _ _ (Xq.mk p59 (Xg.mk p60 p61 p62 p63 p64) p68) _ _ (hM.lent [1, 0] rfl (by decide)) p8.Xo _ hx77) fun v w78 hv => ?_
 obtain ⟨A80, c81, rfl, hN79⟩ := hv
 replace hM := hM.callL [1, 0] [2, 3] rfl rfl (by decide) rfl hN79
 refine vm rfl rfl (RL.val (O.ext rfl rfl) rfl (RL.val (O.ext rfl rfl) rfl (va rfl rfl (va rfl rfl (nt hQ75 ?_)))))
 refine KC.cut (fun a w122 => ∃ (g107 : Nat) (rv108 : Bool) (rv109 : List Int) (rv110 : Bool) (rv111 : List Int) (rv112 rv113 rv114 rv115 rv116 rv117 rv118 rv119 rv120 rv121 : Int), Kn 119 [(0, .pointer (some ⟨g2, 0, none⟩)), (5, .pointer (some ⟨g13, 0, none⟩)), (10, .slice A71 (out73).length c72), (13, vI y76.1), (15, .pointer (some ⟨g107, 0, none⟩))] a ∧ Mem w [some g2, rblk A4 c5] w122 [.row A80 c81 89 44 (y76.2.2.f_L).length ((y76.2.2.f_L).flatMap Xs), .box g2 tg7 (v64 y76.2.2.XK :: (y76.2.2.Xu.cs ++ [.slice A80 (y76.2.2.f_L).length c81])), .box g13 79 (p8.cs), .row A71 c72 89 44 (out73).length ((out73).flatMap Xs), .box g107 89 (vB rv108 :: (a16 rv109 ++ (vB rv110 :: (a16 rv111 ++ [v8 rv112, v16 rv113, v16 rv114, v64 rv115, v64 rv116, v64 rv117, v64 rv118, v8 rv119, v8 rv120, v8 rv121]))))] ∧ J1 p8 out73 y76 rv108 rv109 rv110 rv111 rv112 rv113 rv114 rv115 rv116 rv117 rv118 rv119 rv120 rv121 = some r) ?_ ?_
 ·replace hM := hM.drewN 1
  refine KC.draw [] [14] [12, 13, 14] [0, 1, 2, 4, 8, 9, 10] (.cons 0 (.cons 1 (.cons 2 (.cons 3 (.cons 4 (.cons 5 (.cons 6 (.cons 7 (.cons 8 (.cons 9 (.cons 10 (.cons 11 (.alt 12 (.ofList [13, 14]) 13 (.ofList [12, 14])))))))))))))) moP (by kernel_rfl) ?_
  refine RD.p rfl rfl rfl rfl (fun w' => O.move rfl) ?_
  refine RD.p rfl rfl rfl rfl (fun w' => O.nilp rfl) ?_
  refine RD.p rfl rfl rfl rfl (fun w' => O.fldA fl72_2 (by decide) rfl) ?_
  refine RD.q rfl rfl rfl rfl (fun w' hf => O.load sc70 rfl (Cs.adds [6] ((hM.bx (i := 2) rfl).fut hf) rfl)) ?_
  refine RD.p rfl rfl rfl rfl (fun w' => O.move rfl) ?_
  refine Xx hF fun xv85 hx84 hF => ?_
  have hA83 := Rd.atN (f := Xs) (s := 44) (fun _ => rfl) (by decide) (hM.rd (i := 3) rfl) hx84
  refine RD.q rfl rfl rfl rfl (fun w' hf => O.idxA sl70 (hA83.fut hf) rfl rfl) ?_
  refine RD.q rfl rfl rfl rfl (fun w' hf => O.loadN (cs := (xv85.cs)) ag89 rfl (hA83.fut hf).cells) ?_
  refine RD.q rfl rfl rfl rfl (fun w' hf => O.loadN (cs := (p8.cs)) ag79 rfl (Cs.addsN [] ((hM.bx (i := 0) rfl).fut hf) rfl)) ?_
  refine RD.p rfl rfl rfl rfl (fun w' => O.move rfl) ?_
  refine RD.p rfl rfl rfl rfl (fun w' => O.nilp rfl) ?_
  refine RD.p rfl rfl rfl rfl (fun w' => O.fldA fl72_0 (by decide) rfl) ?_
  refine RD.q rfl rfl rfl rfl (fun w' hf => O.load sc22 rfl (Cs.adds [0] ((hM.bx (i := 2) rfl).fut hf) rfl)) ?_
  refine RD.alt ?_ ?_
  ·refine Xx hF fun y86 hx87 hF => ?_
   refine RD.mcall rfl rfl trivial Tryz.func61 bd61 rfl rfl (XaU _ xv85 p8 y76.2.2.XK _ hx87) fun v w88 hv => ?_
   obtain ⟨rfl, hN89⟩ := hv
   refine ⟨fun _ => hN89.fut, ?_⟩
   replace hM := hM.call0 hN89
   refine RD.meff rfl rfl (E.alloc hM ze89) rfl fun v w91 hv => ?_
   clear hM
   obtain ⟨g90, rfl, hM, hf⟩ := hv
   refine ⟨fun _ => hf, ?_⟩
   refine RD.meffs rfl rfl rfl (E.stB (j := 4) (off := 0) (vs := (y86.cs)) (cs' := (y86.cs)) hM rfl sz89 rfl (XX [] rfl) rfl rfl (One.all rfl) rfl rfl) fun w93 hM1 => ?_
   clear hM
   have hM := hM1
   clear hM1
   refine RD.nil (KQ.Xy ?_)
   replace hM := hM.pick [3, 2, 0, 1, 4] rfl (by decide)
   exact fun a ha => ⟨g90, y86.Xo.XL.YQ, y86.Xo.XL.f_B, y86.Xo.XN.YQ, y86.Xo.XN.f_B, y86.Xo.X2, y86.Xo.X6, y86.Xo.X1, y86.Xk, y86.Xr, y86.X4, y86.Ya, y86.XO, y86.X9, y86.XU, ha.less (Xa rfl (Xa rfl (Xa rfl (Xa rfl (Xa rfl Xj))))), hM, hF⟩
  refine RD.meff rfl rfl (E.alloc hM ze89) rfl fun v w95 hv => ?_
  clear hM
  obtain ⟨g94, rfl, hM, hf⟩ := hv
  refine ⟨fun _ => hf, ?_⟩
  refine Xx hF fun y97 hx98 hF => ?_
  refine RD.mcall rfl rfl trivial Tryz.func61 bd61 rfl rfl (XaU _ xv85 p8 y76.2.2.XK _ hx98) fun v w99 hv => ?_
  obtain ⟨rfl, hN100⟩ := hv
  refine ⟨fun _ => hN100.fut, ?_⟩
  replace hM := hM.call0 hN100
  refine RD.meffs rfl rfl rfl (E.stB (j := 4) (off := 0) (vs := (y97.cs)) (cs' := (y97.cs)) hM rfl sz89 rfl (XX [] rfl) rfl rfl (One.all rfl) rfl rfl) fun w101 hM1 => ?_
  clear hM
  have hM := hM1
  clear hM1
  refine RD.nil (KQ.Xy ?_)
  replace hM := hM.pick [3, 2, 0, 1, 4] rfl (by decide)
  exact fun a ha => ⟨g94, y97.Xo.XL.YQ, y97.Xo.XL.f_B, y97.Xo.XN.YQ, y97.Xo.XN.f_B, y97.Xo.X2, y97.Xo.X6, y97.Xo.X1, y97.Xk, y97.Xr, y97.X4, y97.Ya, y97.XO, y97.X9, y97.XU, ha.less (Xa rfl (Xa rfl (Xa rfl (Xa rfl (Xa rfl Xj))))), hM, hF⟩
 rintro a w122 ⟨g107, rv108, rv109, rv110, rv111, rv112, rv113, rv114, rv115, rv116, rv117, rv118, rv119, rv120, rv121, ha, hM, hF⟩
 refine KC.app ha ?_
 clear ha
 unfold J1 at hF
 refine KC.seqH fun Q123 hQ123 => ?_
 replace hM := hM.drewN 1
 refine KC.draw [] [7] [7] [0, 1, 2, 4] (.ofList [0, 1, 2, 3, 4, 5, 6, 7]) moP (by kernel_rfl) ?_
 refine RD.p rfl rfl rfl rfl (fun w' => O.move rfl) ?_
 refine RD.p rfl rfl rfl rfl (fun w' => O.nilp rfl) ?_
 refine RD.p rfl rfl rfl rfl (fun w' => O.fldA fl72_2 (by decide) rfl) ?_
 refine RD.q rfl rfl rfl rfl (fun w' hf => O.load sc70 rfl (Cs.adds [6] ((hM.bx (i := 1) rfl).fut hf) rfl)) ?_
 refine RD.p rfl rfl rfl rfl (fun w' => O.move rfl) ?_
 refine RD.q rfl rfl rfl rfl (fun w' hf => O.loadN (cs := (vB rv108 :: (a16 rv109 ++ (vB rv110 :: (a16 rv111 ++ [v8 rv112, v16 rv113, v16 rv114, v64 rv115, v64 rv116, v64 rv117, v64 rv118, v8 rv119, v8 rv120, v8 rv121]))))) ag89 rfl (Cs.addsN [] ((hM.bx (i := 4) rfl).fut hf) rfl)) ?_
 refine Xx hF fun xv126 hx125 hF => ?_
 have hA124 := Rd.atN (f := Xs) (s := 44) (fun _ => rfl) (by decide) (hM.rd (i := 0) rfl) hx125
 refine RD.q rfl rfl rfl rfl (fun w' hf => O.idxA sl70 (hA124.fut hf) rfl rfl) ?_
 refine RD.meffs rfl rfl rfl (E.stR (enc := Xs) (j := 0) (off := 0) (vs := (vB rv108 :: (a16 rv109 ++ (vB rv110 :: (a16 rv111 ++ [v8 rv112, v16 rv113, v16 rv114, v64 rv115, v64 rv116, v64 rv117, v64 rv118, v8 rv119, v8 rv120, v8 rv121]))))) (x' := (Xi.mk (XR.mk (Xd.mk rv108 rv109) (Xd.mk rv110 rv111) rv112 rv113 rv114) rv115 rv116 rv117 rv118 rv119 rv120 rv121)) hM rfl (fun _ => rfl) hx125 sz89 rfl (addsR_eq [] rfl) rfl rfl (One.all rfl) rfl rfl) fun w127 hM1 => ?_
 clear hM
 obtain ⟨hM, hn128⟩ := hM1
 refine RD.reslot (t := 62) rfl hn128 ?_
 replace hM := hM.rebox (i := 1) (cs' := (v64 y76.2.2.XK :: (y76.2.2.Xu.cs ++ [.slice A80 ((y76.2.2.f_L.set (y76.1 : Int).toNat (Xi.mk (XR.mk (Xd.mk rv108 rv109) (Xd.mk rv110 rv111) rv112 rv113 rv114) rv115 rv116 rv117 rv118 rv119 rv120 rv121))).length c81]))) rfl (by rw [← hn128])
 refine RD.nil (KQ.thn hQ123 ?_)
 refine KC.cut (fun a w185 => ∃ (A178 : Option Addr) (c179 : Nat) (A182 : Option Addr) (c183 : Nat) (p171 p172 p173 p174 p175 p176 : Int) (p180 out184 : List Xi), Kn 119 [(10, .slice A182 (out184).length c183)] a ∧ Mem w [some g2, rblk A4 c5] w185 [.row A178 c179 89 44 (p180).length ((p180).flatMap Xs), .box g2 tg7 [v64 p171, vI p172, v64 p173, v64 p174, v64 p175, v64 p176, .slice A178 (p180).length c179], .row A182 c183 89 44 (out184).length ((out184).flatMap Xs)] ∧ Z0 p171 p172 p173 p174 p175 p176 p180 out184 = some r) ?_ ?_
 ·refine KC.cut (fun a w134 => ∃ (t133 : Bool), Kn 119 [(0, .pointer (some ⟨g2, 0, none⟩)), (10, .slice A71 (out73).length c72), (13, vI y76.1), (15, .pointer (some ⟨g107, 0, none⟩)), (87, vB t133)] a ∧ Mem w [some g2, rblk A4 c5] w134 [.row A80 c81 89 44 ((y76.2.2.f_L.set (y76.1 : Int).toNat (Xi.mk (XR.mk (Xd.mk rv108 rv109) (Xd.mk rv110 rv111) rv112 rv113 rv114) rv115 rv116 rv117 rv118 rv119 rv120 rv121))).length (((y76.2.2.f_L.set (y76.1 : Int).toNat (Xi.mk (XR.mk (Xd.mk rv108 rv109) (Xd.mk rv110 rv111) rv112 rv113 rv114) rv115 rv116 rv117 rv118 rv119 rv120 rv121))).flatMap Xs), .box g2 tg7 (v64 y76.2.2.XK :: (y76.2.2.Xu.cs ++ [.slice A80 ((y76.2.2.f_L.set (y76.1 : Int).toNat (Xi.mk (XR.mk (Xd.mk rv108 rv109) (Xd.mk rv110 rv111) rv112 rv113 rv114) rv115 rv116 rv117 rv118 rv119 rv120 rv121))).length c81])), .row A71 c72 89 44 (out73).length ((out73).flatMap Xs), .box g107 89 (vB rv108 :: (a16 rv109 ++ (vB rv110 :: (a16 rv111 ++ [v8 rv112, v16 rv113, v16 rv114, v64 rv115, v64 rv116, v64 rv117, v64 rv118, v8 rv119, v8 rv120, v8 rv121]))))] ∧ YW out73 y76 rv108 rv109 rv110 rv111 rv112 rv113 rv114 rv115 rv116 rv117 rv118 rv119 rv120 rv121 t133 = some r) ?_ ?_
  ·refine KC.region (RL.val (O.fldA fl79_0 (by decide) rfl) rfl ?_)
   refine RL.val (O.fldA fl77_2 (by decide) rfl) rfl ?_
   refine RL.val (O.load sc5 rfl (Cs.adds [0, 34] ((hM.bx (i := 2) rfl)) rfl)) rfl (RL.val (O.eql rfl rfl) rfl (vm rfl rfl ?_))
   refine RL.bcase (t := 70) rfl (fun hc => ?_) (fun hc => ?_)
   ·rw [if_pos hc] at hF
    refine RL.gval rfl rfl (O.fldA fl79_3 (by decide) rfl) rfl ?_
    refine RL.gval rfl rfl (O.load sc4 rfl (Cs.adds [39] ((hM.bx (i := 2) rfl)) rfl)) rfl (RL.gval rfl rfl (O.not rfl) rfl (RL.val (O.pickt rfl rfl) rfl (vm rfl rfl ?_)))
    refine RL.bcase (t := 75) rfl (fun hc => ?_) (fun hc => ?_)
    ·rw [if_pos hc] at hF
     refine RL.gval rfl rfl (O.fldA fl79_2 (by decide) rfl) rfl ?_
     refine RL.gval rfl rfl (O.load sc5 rfl (Cs.adds [38] ((hM.bx (i := 2) rfl)) rfl)) rfl (RL.gval rfl rfl (O.rem rfl rfl (by decide)) rfl ?_)
     refine RL.gval rfl rfl (O.eql rfl rfl) rfl (RL.gval rfl rfl (O.move rfl) rfl ?_)
     refine RL.bcase (t := 80) rfl (fun hc => ?_) (fun hc => ?_)
     ·rw [if_pos hc] at hF
      refine RL.gskip rfl rfl rfl rfl (RL.gskip rfl rfl rfl rfl (RL.gskip rfl rfl rfl rfl (RL.gskip rfl rfl rfl rfl (RL.gskip rfl rfl rfl rfl (RL.gval rfl rfl (O.pickt rfl rfl) rfl (RL.val (O.pickt rfl rfl) rfl ?_))))))
      refine RL.nil (KQ.Xy ?_)
      replace hM := hM.pick [0, 1, 3, 4] rfl (by decide)
      exact fun a ha => ⟨true, ha.less (Xa rfl (Xa rfl (Xa rfl (Xa rfl (Xa rfl Xj))))), hM, hF⟩
     rw [if_neg (Xv hc)] at hF
     refine RL.gval rfl rfl (O.fldA fl79_2 (by decide) rfl) rfl ?_
     refine RL.gval rfl rfl (O.load sc5 rfl (Cs.adds [38] ((hM.bx (i := 2) rfl)) rfl)) rfl (RL.gval rfl rfl (O.quo rfl rfl (by decide)) rfl ?_)
     refine RL.gval rfl rfl (O.rem rfl rfl (by decide)) rfl ?_
     refine RL.gval rfl rfl (O.eql rfl rfl) rfl (RL.gval rfl rfl (O.pickf rfl rfl) rfl (RL.val (O.pickt rfl rfl) rfl (RL.nil (KQ.Xy ?_))))
     replace hM := hM.pick [0, 1, 3, 4] rfl (by decide)
     exact fun a ha => ⟨((Int.tmod (IntKind.u8.wrap (Int.tdiv p8.XO 4)) 2) == 1), ha.less (Xa rfl (Xa rfl (Xa rfl (Xa rfl (Xa rfl Xj))))), hM, hF⟩
    rw [if_neg (Xv hc)] at hF
    refine RL.brun1 12 87 false (by kernel_rfl) ?_
    refine RL.nil (KQ.Xy ?_)
    replace hM := hM.pick [0, 1, 3, 4] rfl (by decide)
    exact fun a ha => ⟨false, ha.less (Xa rfl (Xa rfl (Xa rfl (Xa rfl (Xa rfl Xj))))), hM, hF⟩
   rw [if_neg (Xv hc)] at hF
   refine RL.brun1 17 87 false (by kernel_rfl) ?_
   refine RL.nil (KQ.Xy ?_)
   replace hM := hM.pick [0, 1, 3, 4] rfl (by decide)
   exact fun a ha => ⟨false, ha.less (Xa rfl (Xa rfl (Xa rfl (Xa rfl (Xa rfl Xj))))), hM, hF⟩
  rintro a w134 ⟨t133, ha, hM, hF⟩
  refine KC.app ha ?_
  clear ha
  unfold YW at hF
  refine KC.cond rfl (fun hc => ?_) (fun hc => ?_)
  ·rw [if_pos hc] at hF
   refine KC.region (vm rfl rfl (vm rfl rfl (vm rfl rfl ?_)))
   refine Xx hF fun y135 hx136 hF => ?_
   refine RL.call Tryz.func62 bd62 rfl rfl (KV _ _ _ (Xq.mk y76.2.2.XK y76.2.2.Xu (y76.2.2.f_L.set (y76.1 : Int).toNat (Xi.mk (XR.mk (Xd.mk rv108 rv109) (Xd.mk rv110 rv111) rv112 rv113 rv114) rv115 rv116 rv117 rv118 rv119 rv120 rv121))) _ _ (hM.lent [1, 0] rfl (by decide)) y76.1 3 _ hx136) fun v w137 hv => ?_
   obtain ⟨A139, c140, rfl, hN138⟩ := hv
   replace hM := hM.callL [1, 0] [2, 3] rfl rfl (by decide) rfl hN138
   refine RL.eff (E.bsl (enc := Xs) (xs := ([y135.1] : List Xi)) hM sl70 ze89 rfl rfl rfl (fun _ => rfl) rfl (by kernel_rfl) rfl) rfl fun v w142 hv => ?_
   clear hM
   obtain ⟨A143, rfl, hM, hf⟩ := hv
   refine XZ hF fun hq148 hF => ?_
   refine RL.eff (E.app (enc := Xs) (xs := out73) (ys := ([y135.1] : List Xi)) (j := 0) hM rfl sl70 ze89 rfl rfl rfl rfl rfl (hM.rd (i := 4) rfl) (fun _ => One.all rfl) (of_decide_eq_true hq148)) rfl fun v w147 hv => ?_
   clear hM
   obtain ⟨A145, c146, rfl, hM, hf⟩ := hv
   refine va rfl rfl (RL.nil (KQ.Xy ?_))
   replace hM := hM.pick [3, 2, 0] rfl (by decide)
   exact fun a ha => ⟨A139, c140, A145, c146, y135.2.XK, y135.2.Xu.Xz, y135.2.Xu.XI, y135.2.Xu.XA, y135.2.Xu.Xk, y135.2.Xu.Xr, y135.2.f_L, (out73 ++ ([y135.1] : List Xi)), ha.less (Xa rfl Xj), hM, hF⟩
  rw [if_neg (Xv hc)] at hF
  refine KC.cut (fun a w154 => ∃ (t153 : Bool), Kn 119 [(0, .pointer (some ⟨g2, 0, none⟩)), (10, .slice A71 (out73).length c72), (13, vI y76.1), (111, vB t153)] a ∧ Mem w [some g2, rblk A4 c5] w154 [.row A80 c81 89 44 ((y76.2.2.f_L.set (y76.1 : Int).toNat (Xi.mk (XR.mk (Xd.mk rv108 rv109) (Xd.mk rv110 rv111) rv112 rv113 rv114) rv115 rv116 rv117 rv118 rv119 rv120 rv121))).length (((y76.2.2.f_L.set (y76.1 : Int).toNat (Xi.mk (XR.mk (Xd.mk rv108 rv109) (Xd.mk rv110 rv111) rv112 rv113 rv114) rv115 rv116 rv117 rv118 rv119 rv120 rv121))).flatMap Xs), .box g2 tg7 (v64 y76.2.2.XK :: (y76.2.2.Xu.cs ++ [.slice A80 ((y76.2.2.f_L.set (y76.1 : Int).toNat (Xi.mk (XR.mk (Xd.mk rv108 rv109) (Xd.mk rv110 rv111) rv112 rv113 rv114) rv115 rv116 rv117 rv118 rv119 rv120 rv121))).length c81])), .row A71 c72 89 44 (out73).length ((out73).flatMap Xs)] ∧ JZ out73 y76 rv108 rv109 rv110 rv111 rv112 rv113 rv114 rv115 rv116 rv117 rv118 rv119 rv120 rv121 t153 = some r) ?_ ?_
  ·replace hM := hM.drewN 1
   refine KC.draw [] [] [] [0, 2, 3, 4, 5, 7, 8, 9, 11, 12, 13, 14, 16, 17] (.ofList [0, 1, 2, 3, 4, 5, 6, 7, 8, 9, 10, 11, 12, 13, 14, 15, 16, 17]) moP (by kernel_rfl) ?_
   refine RD.p rfl rfl rfl rfl (fun w' => O.fldA fl89_1 (by decide) rfl) ?_
   refine RD.q rfl rfl rfl rfl (fun w' hf => O.load sc22 rfl (Cs.adds [37] ((hM.bx (i := 3) rfl).fut hf) rfl)) ?_
   refine RD.p rfl rfl rfl rfl (fun w' => O.move rfl) ?_
   refine RD.p rfl rfl rfl rfl (fun w' => O.nilp rfl) ?_
   refine RD.p rfl rfl rfl rfl (fun w' => O.fldA fl72_1 (by decide) rfl) ?_
   refine RD.p rfl rfl rfl rfl (fun w' => O.fldA fl34_3 (by decide) rfl) ?_
   refine RD.q rfl rfl rfl rfl (fun w' hf => O.load sc22 rfl (Cs.adds [1, 3] ((hM.bx (i := 1) rfl).fut hf) rfl)) ?_
   refine RD.p rfl rfl rfl rfl (fun w' => O.geq rfl rfl) ?_
   refine RD.p rfl rfl rfl rfl (fun w' => O.move rfl) ?_
   refine RD.bcase (t := 102) rfl (fun hc => ?_) (fun hc => ?_)
   ·rw [if_pos hc] at hF
    refine RD.brun1 [9, 10, 11, 12, 13, 14, 15, 16, 17] 111 true (by kernel_rfl) ?_
    refine RD.nil (KQ.Xy ?_)
    replace hM := hM.pick [0, 1, 2] rfl (by decide)
    exact fun a ha => ⟨true, ha.less (Xa rfl (Xa rfl (Xa rfl (Xa rfl Xj)))), hM, hF⟩
   rw [if_neg (Xv hc)] at hF
   refine RD.gp rfl rfl rfl rfl rfl rfl (fun w' => O.fldA fl89_2 (by decide) rfl) ?_
   refine RD.gq rfl rfl rfl rfl rfl rfl (fun w' hf => O.load sc22 rfl (Cs.adds [38] ((hM.bx (i := 3) rfl).fut hf) rfl)) ?_
   refine RD.gp rfl rfl rfl rfl rfl rfl (fun w' => O.move rfl) ?_
   refine RD.gp rfl rfl rfl rfl rfl rfl (fun w' => O.nilp rfl) ?_
   refine RD.gp rfl rfl rfl rfl rfl rfl (fun w' => O.fldA fl72_1 (by decide) rfl) ?_
   refine RD.gp rfl rfl rfl rfl rfl rfl (fun w' => O.fldA fl34_4 (by decide) rfl) ?_
   refine RD.gq rfl rfl rfl rfl rfl rfl (fun w' hf => O.load sc22 rfl (Cs.adds [1, 4] ((hM.bx (i := 1) rfl).fut hf) rfl)) ?_
   refine RD.gp rfl rfl rfl rfl rfl rfl (fun w' => O.geq rfl rfl) ?_
   refine RD.p rfl rfl rfl rfl (fun w' => O.pickf rfl rfl) (RD.nil (KQ.Xy ?_))
   replace hM := hM.pick [0, 1, 2] rfl (by decide)
   exact fun a ha => ⟨(decide (y76.2.2.Xu.Xr ≤ rv116)), ha.less (Xa rfl (Xa rfl (Xa rfl (Xa rfl Xj)))), hM, hF⟩
  rintro a w154 ⟨t153, ha, hM, hF⟩
  refine KC.app ha ?_
  clear ha
  unfold JZ at hF
  refine KC.cond rfl (fun hc => ?_) (fun hc => ?_)
  ·rw [if_pos hc] at hF
   refine KC.region (vm rfl rfl (vm rfl rfl (vm rfl rfl ?_)))
   refine Xx hF fun y155 hx156 hF => ?_
   refine RL.call Tryz.func62 bd62 rfl rfl (KV _ _ _ (Xq.mk y76.2.2.XK y76.2.2.Xu (y76.2.2.f_L.set (y76.1 : Int).toNat (Xi.mk (XR.mk (Xd.mk rv108 rv109) (Xd.mk rv110 rv111) rv112 rv113 rv114) rv115 rv116 rv117 rv118 rv119 rv120 rv121))) _ _ (hM.lent [1, 0] rfl (by decide)) y76.1 4 _ hx156) fun v w157 hv => ?_
   obtain ⟨A159, c160, rfl, hN158⟩ := hv
   replace hM := hM.callL [1, 0] [2] rfl rfl (by decide) rfl hN158
   refine RL.eff (E.bsl (enc := Xs) (xs := ([y155.1] : List Xi)) hM sl70 ze89 rfl rfl rfl (fun _ => rfl) rfl (by kernel_rfl) rfl) rfl fun v w162 hv => ?_
   clear hM
   obtain ⟨A163, rfl, hM, hf⟩ := hv
   refine XZ hF fun hq168 hF => ?_
   refine RL.eff (E.app (enc := Xs) (xs := out73) (ys := ([y155.1] : List Xi)) (j := 0) hM rfl sl70 ze89 rfl rfl rfl rfl rfl (hM.rd (i := 3) rfl) (fun _ => One.all rfl) (of_decide_eq_true hq168)) rfl fun v w167 hv => ?_
   clear hM
   obtain ⟨A165, c166, rfl, hM, hf⟩ := hv
   refine va rfl rfl (RL.nil (KQ.Xy ?_))
   replace hM := hM.pick [2, 1, 0] rfl (by decide)
   exact fun a ha => ⟨A159, c160, A165, c166, y155.2.XK, y155.2.Xu.Xz, y155.2.Xu.XI, y155.2.Xu.XA, y155.2.Xu.Xk, y155.2.Xu.Xr, y155.2.f_L, (out73 ++ ([y155.1] : List Xi)), ha.less (Xa rfl Xj), hM, hF⟩
  rw [if_neg (Xv hc)] at hF
  refine KC.skip (KQ.Xy ?_)
  exact fun a ha => ⟨A80, c81, A71, c72, y76.2.2.XK, y76.2.2.Xu.Xz, y76.2.2.Xu.XI, y76.2.2.Xu.XA, y76.2.2.Xu.Xk, y76.2.2.Xu.Xr, (y76.2.2.f_L.set (y76.1 : Int).toNat (Xi.mk (XR.mk (Xd.mk rv108 rv109) (Xd.mk rv110 rv111) rv112 rv113 rv114) rv115 rv116 rv117 rv118 rv119 rv120 rv121)), out73, ha.less (Xa rfl Xj), hM, hF⟩
 rintro a w185 ⟨A178, c179, A182, c183, p171, p172, p173, p174, p175, p176, p180, out184, ha, hM, hF⟩
 refine KC.app ha ?_
 clear ha
 unfold Z0 at hF
 refine sr fun Q186 hQ186 => ?_
 refine vm rfl rfl (va rfl rfl (va rfl rfl (nt hQ186 (KC.ret ?_))))
 have hE := Option.some.inj hF
 clear hF
 subst hE
 replace hM := hM.pick [1, 0, 2] rfl (by decide)
 refine KQ.rets Tryz.results21 (RVs.cons (RV.tm rfl) (RVs.cons (RV.tm rfl) RVs.nil)) ?_
 exact ⟨_, rfl, A178, c179, A182, c183, rfl, hM⟩
theorem XaZ (w : World) (av1 : Xd) (r : Xd) (hF : Xaa av1 = some r) :
  CallsR Tryz.prog 67 [.agg (av1.cs).toArray] w (fun v w' => v = .agg (r.cs).toArray ∧ Mem w [] w' []) := by
 refine XJ Tryz.func67 rfl Tryz.ntmps67 rfl ?_
 have hM := Mem.init w
 unfold Xaa at hF
 refine sr fun Q2 hQ2 => ?_
 refine RL.eff (E.box (vs := (av1.cs)) hM rfl rfl) rfl fun v w4 hv => ?_
 clear hM
 obtain ⟨g3, rfl, hM, hf⟩ := hv
 refine RL.eff (E.alloc hM ze75) rfl fun v w7 hv => ?_
 clear hM
 obtain ⟨g6, rfl, hM, hf⟩ := hv
 refine nt hQ2 ?_
 refine sr fun Q9 hQ9 => ?_
 refine RL.val (O.fldA fl39_0 (by decide) rfl) rfl ?_
 refine RL.val (O.load sc4 rfl (Cs.adds [0] ((hM.bx (i := 0) rfl)) rfl)) rfl (RL.val (O.fldA fl39_1 (by decide) rfl) rfl ?_)
 refine RL.val (O.loadN (cs := (a16 av1.f_B)) ag37 rfl (Cs.addsN [1] ((hM.bx (i := 0) rfl)) rfl)) rfl (RL.val (O.bld (cs := (av1.cs)) bt75 rfl (by kernel_rfl)) rfl ?_)
 refine RL.effs (E.stB (j := 1) (off := 0) (vs := (av1.cs)) (cs' := (av1.cs)) hM rfl sz75 rfl (XX [] rfl) rfl rfl (One.all rfl) rfl rfl) fun w10 hM1 => ?_
 clear hM
 have hM := hM1
 clear hM1
 refine nt hQ9 (KC.ret ?_)
 have hE := Option.some.inj hF
 clear hF
 subst hE
 have hb11 := hM.bx (i := 1) rfl
 replace hM := hM.pick [] rfl (by decide)
 refine KQ.rets Tryz.results67 (RVs.cons (RV.cN (cs := (av1.cs)) rfl ag75 hb11) RVs.nil) ?_
 exact ⟨_, rfl, rfl, hM⟩
theorem XaO (w : World) (kv1 : Xe) (r : XR) (hF : V3 kv1 = some r) :
  CallsR Tryz.prog 31 [.agg (kv1.cs).toArray] w (fun v w' => v = .agg (r.cs).toArray ∧ Mem w [] w' []) := by
 refine XJ Tryz.func31 rfl Tryz.ntmps31 rfl ?_
 have hM := Mem.init w
 unfold V3 at hF
 refine sr fun Q2 hQ2 => ?_
 refine RL.eff (E.box (vs := (kv1.cs)) hM rfl rfl) rfl fun v w4 hv => ?_
 clear hM
 obtain ⟨g3, rfl, hM, hf⟩ := hv
 refine RL.eff (E.alloc hM ze77) rfl fun v w7 hv => ?_
 clear hM
 obtain ⟨g6, rfl, hM, hf⟩ := hv
 refine nt hQ2 ?_
 refine KC.seqH fun Q9 hQ9 => ?_
 replace hM := hM.drewN 1
 refine KC.draw [] [13] [2, 5, 13] [0, 3, 6, 8, 10] (.ofList [0, 1, 3, 4, 6, 7, 8, 9, 10, 11, 2, 5, 12, 13]) moP (by kernel_rfl) ?_
 refine RD.p rfl rfl rfl rfl (fun w' => O.fldA fl42_0 (by decide) rfl) ?_
 refine RD.q rfl rfl rfl rfl (fun w' hf => O.loadN (cs := (kv1.XL.cs)) ag39 rfl (Cs.addsN [0] ((hM.bx (i := 0) rfl).fut hf) rfl)) ?_
 refine RD.p rfl rfl rfl rfl (fun w' => O.fldA fl42_1 (by decide) rfl) ?_
 refine RD.q rfl rfl rfl rfl (fun w' hf => O.loadN (cs := (kv1.XN.cs)) ag39 rfl (Cs.addsN [17] ((hM.bx (i := 0) rfl).fut hf) rfl)) ?_
 refine RD.p rfl rfl rfl rfl (fun w' => O.fldA fl42_2 (by decide) rfl) ?_
 refine RD.q rfl rfl rfl rfl (fun w' hf => O.load sc5 rfl (Cs.adds [34] ((hM.bx (i := 0) rfl).fut hf) rfl)) ?_
 refine RD.p rfl rfl rfl rfl (fun w' => O.fldA fl42_3 (by decide) rfl) ?_
 refine RD.q rfl rfl rfl rfl (fun w' hf => O.load sc40 rfl (Cs.adds [35] ((hM.bx (i := 0) rfl).fut hf) rfl)) ?_
 refine RD.p rfl rfl rfl rfl (fun w' => O.fldA fl42_4 (by decide) rfl) ?_
 refine RD.q rfl rfl rfl rfl (fun w' hf => O.load sc40 rfl (Cs.adds [36] ((hM.bx (i := 0) rfl).fut hf) rfl)) ?_
 refine Xx hF fun y10 hx11 hF => ?_
 refine RD.mcall rfl rfl trivial Tryz.func67 bd67 rfl rfl (XaZ _ kv1.XL _ hx11) fun v w12 hv => ?_
 obtain ⟨rfl, hN13⟩ := hv
 refine ⟨fun _ => hN13.fut, ?_⟩
 replace hM := hM.call0 hN13
 refine Xx hF fun y14 hx15 hF => ?_
 refine RD.mcall rfl rfl trivial Tryz.func67 bd67 rfl rfl (XaZ _ kv1.XN _ hx15) fun v w16 hv => ?_
 obtain ⟨rfl, hN17⟩ := hv
 refine ⟨fun _ => hN17.fut, ?_⟩
 replace hM := hM.call0 hN17
 refine RD.q rfl rfl rfl rfl (fun w' hf => O.bld (cs := (y10.cs ++ y14.cs ++ [v8 kv1.X2, v16 kv1.X6, v16 kv1.X1])) bt77 rfl (by kernel_rfl)) ?_
 refine RD.meffs rfl rfl rfl (E.stB (j := 1) (off := 0) (vs := (y10.cs ++ y14.cs ++ [v8 kv1.X2, v16 kv1.X6, v16 kv1.X1])) (cs' := (y10.cs ++ y14.cs ++ [v8 kv1.X2, v16 kv1.X6, v16 kv1.X1])) hM rfl sz77 rfl (XX [] rfl) rfl rfl (One.all rfl) rfl rfl) fun w18 hM1 => ?_
 clear hM
 have hM := hM1
 clear hM1
 refine RD.nil (KQ.thn hQ9 (KC.ret ?_))
 have hE := Option.some.inj hF
 clear hF
 subst hE
 have hb19 := hM.bx (i := 1) rfl
 replace hM := hM.pick [] rfl (by decide)
 refine KQ.rets Tryz.results31 (RVs.cons (RV.cN (cs := (y10.cs ++ y14.cs ++ [v8 kv1.X2, v16 kv1.X6, v16 kv1.X1])) rfl ag77 hb19) RVs.nil) ?_
 exact ⟨_, rfl, rfl, hM⟩
theorem Xa9 (w : World) (p1 : XC) (r : Zd) (hF : V6 p1 = some r) :
  CallsR Tryz.prog 22 [.agg (p1.cs).toArray] w (fun v w' => v = .agg (r.cs).toArray ∧ Mem w [] w' []) := by
 refine XJ Tryz.func22 rfl Tryz.ntmps22 rfl ?_
 have hM := Mem.init w
 unfold V6 at hF
 refine sr fun Q2 hQ2 => ?_
 refine RL.eff (E.box (vs := (p1.cs)) hM rfl rfl) rfl fun v w4 hv => ?_
 clear hM
 obtain ⟨g3, rfl, hM, hf⟩ := hv
 refine RL.eff (E.alloc hM ze79) rfl fun v w7 hv => ?_
 clear hM
 obtain ⟨g6, rfl, hM, hf⟩ := hv
 refine nt hQ2 ?_
 refine KC.seqH fun Q9 hQ9 => ?_
 replace hM := hM.drewN 1
 refine KC.draw [] [10] [2, 10] [0, 3, 5, 7] (.ofList [0, 1, 3, 4, 5, 6, 7, 8, 2, 9, 10]) moP (by kernel_rfl) ?_
 refine RD.p rfl rfl rfl rfl (fun w' => O.fldA fl44_0 (by decide) rfl) ?_
 refine RD.q rfl rfl rfl rfl (fun w' hf => O.loadN (cs := (p1.Xo.cs)) ag42 rfl (Cs.addsN [0] ((hM.bx (i := 0) rfl).fut hf) rfl)) ?_
 refine RD.p rfl rfl rfl rfl (fun w' => O.fldA fl44_1 (by decide) rfl) ?_
 refine RD.q rfl rfl rfl rfl (fun w' hf => O.load sc3 rfl (Cs.adds [37] ((hM.bx (i := 0) rfl).fut hf) rfl)) ?_
 refine RD.p rfl rfl rfl rfl (fun w' => O.fldA fl44_2 (by decide) rfl) ?_
 refine RD.q rfl rfl rfl rfl (fun w' hf => O.load sc5 rfl (Cs.adds [38] ((hM.bx (i := 0) rfl).fut hf) rfl)) ?_
 refine RD.p rfl rfl rfl rfl (fun w' => O.fldA fl44_3 (by decide) rfl) ?_
 refine RD.q rfl rfl rfl rfl (fun w' hf => O.load sc4 rfl (Cs.adds [39] ((hM.bx (i := 0) rfl).fut hf) rfl)) ?_
 refine Xx hF fun y10 hx11 hF => ?_
 refine RD.mcall rfl rfl trivial Tryz.func31 bd31 rfl rfl (XaO _ p1.Xo _ hx11) fun v w12 hv => ?_
 obtain ⟨rfl, hN13⟩ := hv
 refine ⟨fun _ => hN13.fut, ?_⟩
 replace hM := hM.call0 hN13
 refine RD.q rfl rfl rfl rfl (fun w' hf => O.bld (cs := (y10.cs ++ [vI p1.Yk, v8 p1.XO, vB p1.YS])) bt79 rfl (by kernel_rfl)) ?_
 refine RD.meffs rfl rfl rfl (E.stB (j := 1) (off := 0) (vs := (y10.cs ++ [vI p1.Yk, v8 p1.XO, vB p1.YS])) (cs' := (y10.cs ++ [vI p1.Yk, v8 p1.XO, vB p1.YS])) hM rfl sz79 rfl (XX [] rfl) rfl rfl (One.all rfl) rfl rfl) fun w14 hM1 => ?_
 clear hM
 have hM := hM1
 clear hM1
 refine RD.nil (KQ.thn hQ9 (KC.ret ?_))
 have hE := Option.some.inj hF
 clear hF
 subst hE
 have hb15 := hM.bx (i := 1) rfl
 replace hM := hM.pick [] rfl (by decide)
 refine KQ.rets Tryz.results22 (RVs.cons (RV.cN (cs := (y10.cs ++ [vI p1.Yk, v8 p1.XO, vB p1.YS])) rfl ag79 hb15) RVs.nil) ?_
 exact ⟨_, rfl, rfl, hM⟩
theorem XaI (w : World) (rv1 : Xc) (r : Xi) (hF : VD rv1 = some r) :
  CallsR Tryz.prog 32 [.agg (rv1.cs).toArray] w (fun v w' => v = .agg (r.cs).toArray ∧ Mem w [] w' []) := by
 refine XJ Tryz.func32 rfl Tryz.ntmps32 rfl ?_
 have hM := Mem.init w
 unfold VD at hF
 refine sr fun Q2 hQ2 => ?_
 refine RL.eff (E.box (vs := (rv1.cs)) hM rfl rfl) rfl fun v w4 hv => ?_
 clear hM
 obtain ⟨g3, rfl, hM, hf⟩ := hv
 refine RL.eff (E.alloc hM ze89) rfl fun v w7 hv => ?_
 clear hM
 obtain ⟨g6, rfl, hM, hf⟩ := hv
 refine nt hQ2 ?_
 refine KC.seqH fun Q9 hQ9 => ?_
 replace hM := hM.drewN 1
 refine KC.draw [] [18] [2, 18] [0, 3, 5, 7, 9, 11, 13, 15] (.ofList [0, 1, 3, 4, 5, 6, 7, 8, 9, 10, 11, 12, 13, 14, 15, 16, 2, 17, 18]) moP (by kernel_rfl) ?_
 refine RD.p rfl rfl rfl rfl (fun w' => O.fldA fl62_0 (by decide) rfl) ?_
 refine RD.q rfl rfl rfl rfl (fun w' hf => O.loadN (cs := (rv1.Xo.cs)) ag42 rfl (Cs.addsN [0] ((hM.bx (i := 0) rfl).fut hf) rfl)) ?_
 refine RD.p rfl rfl rfl rfl (fun w' => O.fldA fl62_1 (by decide) rfl) ?_
 refine RD.q rfl rfl rfl rfl (fun w' hf => O.load sc22 rfl (Cs.adds [37] ((hM.bx (i := 0) rfl).fut hf) rfl)) ?_
 refine RD.p rfl rfl rfl rfl (fun w' => O.fldA fl62_2 (by decide) rfl) ?_
 refine RD.q rfl rfl rfl rfl (fun w' hf => O.load sc22 rfl (Cs.adds [38] ((hM.bx (i := 0) rfl).fut hf) rfl)) ?_
 refine RD.p rfl rfl rfl rfl (fun w' => O.fldA fl62_3 (by decide) rfl) ?_
 refine RD.q rfl rfl rfl rfl (fun w' hf => O.load sc22 rfl (Cs.adds [39] ((hM.bx (i := 0) rfl).fut hf) rfl)) ?_
 refine RD.p rfl rfl rfl rfl (fun w' => O.fldA fl62_4 (by decide) rfl) ?_
 refine RD.q rfl rfl rfl rfl (fun w' hf => O.load sc22 rfl (Cs.adds [40] ((hM.bx (i := 0) rfl).fut hf) rfl)) ?_
 refine RD.p rfl rfl rfl rfl (fun w' => O.fldA fl62_5 (by decide) rfl) ?_
 refine RD.q rfl rfl rfl rfl (fun w' hf => O.load sc5 rfl (Cs.adds [41] ((hM.bx (i := 0) rfl).fut hf) rfl)) ?_
 refine RD.p rfl rfl rfl rfl (fun w' => O.fldA fl62_6 (by decide) rfl) ?_
 refine RD.q rfl rfl rfl rfl (fun w' hf => O.load sc5 rfl (Cs.adds [42] ((hM.bx (i := 0) rfl).fut hf) rfl)) ?_
 refine RD.p rfl rfl rfl rfl (fun w' => O.fldA fl62_7 (by decide) rfl) ?_
 refine RD.q rfl rfl rfl rfl (fun w' hf => O.load sc5 rfl (Cs.adds [43] ((hM.bx (i := 0) rfl).fut hf) rfl)) ?_
 refine Xx hF fun y10 hx11 hF => ?_
 refine RD.mcall rfl rfl trivial Tryz.func31 bd31 rfl rfl (XaO _ rv1.Xo _ hx11) fun v w12 hv => ?_
 obtain ⟨rfl, hN13⟩ := hv
 refine ⟨fun _ => hN13.fut, ?_⟩
 replace hM := hM.call0 hN13
 refine RD.q rfl rfl rfl rfl (fun w' hf => O.bld (cs := (y10.cs ++ [v64 rv1.Xk, v64 rv1.Xr, v64 rv1.X4, v64 rv1.Ya, v8 rv1.XO, v8 rv1.X9, v8 rv1.XU])) bt89 rfl (by kernel_rfl)) ?_
 refine RD.meffs rfl rfl rfl (E.stB (j := 1) (off := 0) (vs := (y10.cs ++ [v64 rv1.Xk, v64 rv1.Xr, v64 rv1.X4, v64 rv1.Ya, v8 rv1.XO, v8 rv1.X9, v8 rv1.XU])) (cs' := (y10.cs ++ [v64 rv1.Xk, v64 rv1.Xr, v64 rv1.X4, v64 rv1.Ya, v8 rv1.XO, v8 rv1.X9, v8 rv1.XU])) hM rfl sz89 rfl (XX [] rfl) rfl rfl (One.all rfl) rfl rfl) fun w14 hM1 => ?_
 clear hM
 have hM := hM1
 clear hM1
 refine RD.nil (KQ.thn hQ9 (KC.ret ?_))
 have hE := Option.some.inj hF
 clear hF
 subst hE
 have hb15 := hM.bx (i := 1) rfl
 replace hM := hM.pick [] rfl (by decide)
 refine KQ.rets Tryz.results32 (RVs.cons (RV.cN (cs := (y10.cs ++ [v64 rv1.Xk, v64 rv1.Xr, v64 rv1.X4, v64 rv1.Ya, v8 rv1.XO, v8 rv1.X9, v8 rv1.XU])) rfl ag89 hb15) RVs.nil) ?_
 exact ⟨_, rfl, rfl, hM⟩
end Go.Proofs.YtkpnocgfhipidaaGreat
