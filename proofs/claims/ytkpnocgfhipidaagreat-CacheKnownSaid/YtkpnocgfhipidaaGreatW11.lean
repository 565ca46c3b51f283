/- Printed by a program of this claim: each call returns what the plain function of its name gives. -/
import Derived.Test.YtkpnocgfhipidaaGreatW1
import Derived.Test.YtkpnocgfhipidaaGreatW9
import Derived.Test.YtkpnocgfhipidaaGreatW10
set_option linter.unusedVariables false
set_option maxRecDepth 100000
set_option maxHeartbeats 40000000
namespace Go.Proofs.YtkpnocgfhipidaaGreat
open Go Go.Ox Go.RowKit
theorem Us (w : World) (g2 : Nat) (tg7 : TypeId) (cv1 : Xq) (A4 : Option Addr) (c5 : Nat) (hL9 : Lent w [.box g2 tg7 (v64 cv1.XK :: (cv1.Xu.cs ++ [.slice A4 (cv1.f_L).length c5])), .row A4 c5 89 44 (cv1.f_L).length ((cv1.f_L).flatMap Xs)]) (kv8 : XR) (r : Int × Bool × Xq) (hF : YJ cv1 kv8 = some r) :
  CallsR Tryz.prog 59 [.pointer (some ⟨g2, 0, none⟩), .agg (kv8.cs).toArray] w (fun v w' => ∃ (A0 : Option Addr) (c0 : Nat), v = .tuple #[vI r.1, vB r.2.1] ∧ Mem w [some g2, rblk A4 c5] w' [.box g2 tg7 (v64 r.2.2.XK :: (r.2.2.Xu.cs ++ [.slice A0 (r.2.2.f_L).length c0])), .row A0 c0 89 44 r.2.2.f_L.length (r.2.2.f_L.flatMap Xs)]) := by
 refine XJ Tryz.func59 rfl Tryz.ntmps59 rfl ?_
 have hM : Mem w [some g2, rblk A4 c5] w [.box g2 tg7 (v64 cv1.XK :: (cv1.Xu.cs ++ [.slice A4 (cv1.f_L).length c5])), .row A4 c5 89 44 (cv1.f_L).length ((cv1.f_L).flatMap Xs)] := Mem.lendN hL9
 unfold YJ at hF
 refine sr fun Q10 hQ10 => ?_
 refine RL.eff (E.box (vs := (kv8.cs)) hM rfl rfl) rfl fun v w12 hv => ?_
 clear hM
 obtain ⟨g11, rfl, hM, hf⟩ := hv
 refine va rfl rfl (va rfl rfl (nt hQ10 ?_))
 refine sr fun Q14 hQ14 => ?_
 refine va rfl rfl (nt hQ14 ?_)
 refine KC.seqH fun Q15 hQ15 => ?_
 refine KC.block ?_
 refine KC.loop (fun k52 a w50 => ∃ (atv49 : Int), Kn 49 [(0, .pointer (some ⟨g2, 0, none⟩)), (3, .pointer (some ⟨g11, 0, none⟩)), (6, vI atv49)] a ∧ Mem w [some g2, rblk A4 c5] w50 [.row A4 c5 89 44 (cv1.f_L).length ((cv1.f_L).flatMap Xs), .box g2 tg7 (v64 cv1.XK :: (cv1.Xu.cs ++ [.slice A4 (cv1.f_L).length c5])), .box g11 77 (kv8.cs)] ∧ Y4 cv1 kv8 k52 atv49 = some r) ?_ ?_
 ·replace hM := hM.pick [1, 0, 2] rfl (by decide)
  exact fun a ha => ⟨fuel0, 0, ha.less (Xa rfl (Xa rfl (Xa rfl Xj))), hM, hF⟩
 rintro k52 a w50 ⟨atv49, ha, hM, hF⟩
 refine KC.app ha ?_
 clear ha
 cases k52 with
 | zero => exact (Yl hF).elim
 | succ k52 =>
 have hF : JW (Y4 cv1 kv8 k52) cv1 kv8 atv49 = some r := hF
 unfold JW at hF
 refine KC.seqH fun Q53 hQ53 => ?_
 refine KC.cut (fun a w65 => ∃ (t64 : Bool), Kn 49 [(0, .pointer (some ⟨g2, 0, none⟩)), (3, .pointer (some ⟨g11, 0, none⟩)), (6, vI atv49), (26, vB t64)] a ∧ Mem w [some g2, rblk A4 c5] w65 [.row A4 c5 89 44 (cv1.f_L).length ((cv1.f_L).flatMap Xs), .box g2 tg7 (v64 cv1.XK :: (cv1.Xu.cs ++ [.slice A4 (cv1.f_L).length c5])), .box g11 77 (kv8.cs)] ∧ ZS cv1 kv8 atv49 (Y4 cv1 kv8 k52) t64 = some r) ?_ ?_
 ·replace hM := hM.drewN 1
  refine KC.draw [] [] [17] [0, 1, 2, 3, 5, 6, 7, 8, 9, 10, 12, 14, 18, 19] (.ofList [0, 1, 2, 3, 4, 5, 6, 7, 8, 9, 10, 11, 12, 13, 14, 15, 16, 17, 18, 19]) moP (by kernel_rfl) ?_
  refine RD.p rfl rfl rfl rfl (fun w' => O.move rfl) ?_
  refine RD.p rfl rfl rfl rfl (fun w' => O.move rfl) ?_
  refine RD.p rfl rfl rfl rfl (fun w' => O.nilp rfl) ?_
  refine RD.p rfl rfl rfl rfl (fun w' => O.fldA fl72_2 (by decide) rfl) ?_
  refine RD.q rfl rfl rfl rfl (fun w' hf => O.load sc70 rfl (Cs.adds [6] ((hM.bx (i := 1) rfl).fut hf) rfl)) ?_
  refine RD.p rfl rfl rfl rfl (fun w' => O.len sl70 rfl) ?_
  refine RD.p rfl rfl rfl rfl (fun w' => O.lss rfl rfl) ?_
  refine RD.p rfl rfl rfl rfl (fun w' => O.move rfl) ?_
  refine RD.bcase (t := 14) rfl (fun hc => ?_) (fun hc => ?_)
  ·rw [if_pos hc] at hF
   refine RD.gp rfl rfl rfl rfl rfl rfl (fun w' => O.move rfl) ?_
   refine RD.gp rfl rfl rfl rfl rfl rfl (fun w' => O.nilp rfl) ?_
   refine RD.gp rfl rfl rfl rfl rfl rfl (fun w' => O.fldA fl72_2 (by decide) rfl) ?_
   refine RD.gq rfl rfl rfl rfl rfl rfl (fun w' hf => O.load sc70 rfl (Cs.adds [6] ((hM.bx (i := 1) rfl).fut hf) rfl)) ?_
   refine RD.gp rfl rfl rfl rfl rfl rfl (fun w' => O.move rfl) ?_
   refine Xx hF fun xv56 hx55 hF => ?_
   have hA54 := Rd.atN (f := Xs) (s := 44) (fun _ => rfl) (by decide) (hM.rd (i := 0) rfl) hx55
   refine RD.gq rfl rfl rfl rfl rfl rfl (fun w' hf => O.idxA sl70 (hA54.fut hf) rfl rfl) ?_
   refine RD.gp rfl rfl rfl rfl rfl rfl (fun w' => O.fldA fl89_0 (by decide) rfl) ?_
   refine RD.gq rfl rfl rfl rfl rfl rfl (fun w' hf => O.loadN (cs := (xv56.Xo.cs)) ag77 rfl (Cs.addsN [0] (hA54.fut hf).cells rfl)) ?_
   refine RD.gq rfl rfl rfl rfl rfl rfl (fun w' hf => O.loadN (cs := (kv8.cs)) ag77 rfl (Cs.addsN [] ((hM.bx (i := 2) rfl).fut hf) rfl)) ?_
   refine Xx hF fun y57 hx58 hF => ?_
   refine RD.mcall rfl rfl ⟨rfl, rfl⟩ Tryz.func88 bd88 rfl rfl (Xbp _ xv56.Xo kv8 _ hx58) fun v w59 hv => ?_
   obtain ⟨rfl, hN60⟩ := hv
   refine ⟨fun _ => hN60.fut, ?_⟩
   replace hM := hM.call0 hN60
   refine RD.gp rfl rfl rfl rfl rfl rfl (fun w' => O.lss rfl rfl) ?_
   refine RD.p rfl rfl rfl rfl (fun w' => O.pickt rfl rfl) (RD.nil (KQ.Xy ?_))
   exact fun a ha => ⟨(decide (y57 < 0)), ha.less (Xa rfl (Xa rfl (Xa rfl (Xa rfl Xj)))), hM, hF⟩
  rw [if_neg (Xv hc)] at hF
  refine RD.gskip rfl rfl rfl rfl rfl (RD.gskip rfl rfl rfl rfl rfl (RD.gskip rfl rfl rfl rfl rfl (RD.gskip rfl rfl rfl rfl rfl (RD.gskip rfl rfl rfl rfl rfl (RD.gskip rfl rfl rfl rfl rfl (RD.gskip rfl rfl rfl rfl rfl ?_))))))
  refine RD.gskip rfl rfl rfl rfl rfl (RD.gskip rfl rfl rfl rfl rfl (RD.gskip rfl rfl rfl rfl rfl (RD.gskip rfl rfl rfl rfl rfl ?_)))
  refine RD.p rfl rfl rfl rfl (fun w' => O.pickf rfl rfl) (RD.nil (KQ.Xy ?_))
  exact fun a ha => ⟨false, ha.less (Xa rfl (Xa rfl (Xa rfl (Xa rfl Xj)))), hM, hF⟩
 rintro a w65 ⟨t64, ha, hM, hF⟩
 refine KC.app ha ?_
 clear ha
 unfold ZS at hF
 refine KC.cond rfl (fun hc => ?_) (fun hc => ?_)
 ·rw [if_pos hc] at hF
  refine KC.skip (KQ.thn hQ53 (KC.block (KC.region (vm rfl rfl (RL.val (O.add rfl rfl) rfl (va rfl rfl ?_))))))
  refine RL.nil (KQ.blk_n (KQ.Xy ?_))
  exact fun a ha => ⟨k52, Nat.lt_succ_self k52, (IntKind.i64.wrap (atv49 + 1)), ha.less (Xa rfl (Xa rfl (Xa rfl Xj))), hM, hF⟩
 rw [if_neg (Xv hc)] at hF
 refine KC.exit (KQ.thx hQ53 (KQ.then_x (KQ.blk_x (KQ.thn hQ15 ?_))))
 refine KC.cut (fun a w72 => ∃ (t71 : Bool), Kn 49 [(4, vI atv49), (5, vB t71)] a ∧ Mem w [some g2, rblk A4 c5] w72 [.row A4 c5 89 44 (cv1.f_L).length ((cv1.f_L).flatMap Xs), .box g2 tg7 (v64 cv1.XK :: (cv1.Xu.cs ++ [.slice A4 (cv1.f_L).length c5]))] ∧ ZQ cv1 atv49 t71 = some r) ?_ ?_
 ·replace hM := hM.drewN 1
  refine KC.draw [] [] [] [0, 1, 2, 3, 4, 6, 7, 8, 9, 10, 11, 13, 15, 18, 19, 20, 21] (.ofList [0, 1, 2, 3, 4, 5, 6, 7, 8, 9, 10, 11, 12, 13, 14, 15, 16, 17, 18, 19, 20, 21]) moP (by kernel_rfl) ?_
  refine RD.p rfl rfl rfl rfl (fun w' => O.move rfl) ?_
  refine RD.p rfl rfl rfl rfl (fun w' => O.move rfl) ?_
  refine RD.p rfl rfl rfl rfl (fun w' => O.move rfl) ?_
  refine RD.p rfl rfl rfl rfl (fun w' => O.nilp rfl) ?_
  refine RD.p rfl rfl rfl rfl (fun w' => O.fldA fl72_2 (by decide) rfl) ?_
  refine RD.q rfl rfl rfl rfl (fun w' hf => O.load sc70 rfl (Cs.adds [6] ((hM.bx (i := 1) rfl).fut hf) rfl)) ?_
  refine RD.p rfl rfl rfl rfl (fun w' => O.len sl70 rfl) ?_
  refine RD.p rfl rfl rfl rfl (fun w' => O.lss rfl rfl) ?_
  refine RD.p rfl rfl rfl rfl (fun w' => O.move rfl) ?_
  refine RD.bcase (t := 37) rfl (fun hc => ?_) (fun hc => ?_)
  ·rw [if_pos hc] at hF
   refine RD.gp rfl rfl rfl rfl rfl rfl (fun w' => O.move rfl) ?_
   refine RD.gp rfl rfl rfl rfl rfl rfl (fun w' => O.nilp rfl) ?_
   refine RD.gp rfl rfl rfl rfl rfl rfl (fun w' => O.fldA fl72_2 (by decide) rfl) ?_
   refine RD.gq rfl rfl rfl rfl rfl rfl (fun w' hf => O.load sc70 rfl (Cs.adds [6] ((hM.bx (i := 1) rfl).fut hf) rfl)) ?_
   refine RD.gp rfl rfl rfl rfl rfl rfl (fun w' => O.move rfl) ?_
   refine Xx hF fun xv68 hx67 hF => ?_
   have hA66 := Rd.atN (f := Xs) (s := 44) (fun _ => rfl) (by decide) (hM.rd (i := 0) rfl) hx67
   refine RD.gq rfl rfl rfl rfl rfl rfl (fun w' hf => O.idxA sl70 (hA66.fut hf) rfl rfl) ?_
   refine RD.gp rfl rfl rfl rfl rfl rfl (fun w' => O.fldA fl89_0 (by decide) rfl) ?_
   refine RD.gq rfl rfl rfl rfl rfl rfl (fun w' hf => O.loadN (cs := (xv68.Xo.cs)) ag77 rfl (Cs.addsN [0] (hA66.fut hf).cells rfl)) ?_
   refine RD.gq rfl rfl rfl rfl rfl rfl (fun w' hf => O.loadN (cs := (kv8.cs)) ag77 rfl (Cs.addsN [] ((hM.bx (i := 2) rfl).fut hf) rfl)) ?_
   refine RD.gp rfl rfl rfl rfl rfl rfl (fun w' => O.steq (cs := (xv68.Xo.cs)) (cs' := (kv8.cs)) (by kernel_rfl) rfl rfl (Q77t xv68.Xo kv8 _ rfl rfl)) ?_
   refine RD.p rfl rfl rfl rfl (fun w' => O.pickt rfl rfl) ?_
   refine RD.p rfl rfl rfl rfl (fun w' => O.assign rfl) ?_
   refine RD.p rfl rfl rfl rfl (fun w' => O.assign rfl) (RD.nil (KQ.Xy ?_))
   replace hM := hM.pick [0, 1] rfl (by decide)
   exact fun a ha => ⟨(Vm xv68.Xo kv8), ha.less (Xa rfl (Xa rfl Xj)), hM, hF⟩
  rw [if_neg (Xv hc)] at hF
  refine RD.brun1 [9, 10, 11, 12, 13, 14, 15, 16, 17, 18, 19] 48 false (by kernel_rfl) ?_
  refine RD.p rfl rfl rfl rfl (fun w' => O.assign rfl) ?_
  refine RD.p rfl rfl rfl rfl (fun w' => O.assign rfl) (RD.nil (KQ.Xy ?_))
  replace hM := hM.pick [0, 1] rfl (by decide)
  exact fun a ha => ⟨false, ha.less (Xa rfl (Xa rfl Xj)), hM, hF⟩
 rintro a w72 ⟨t71, ha, hM, hF⟩
 refine KC.app ha ?_
 clear ha
 unfold ZQ at hF
 refine KC.ret ?_
 have hE := Option.some.inj hF
 clear hF
 subst hE
 replace hM := hM.pick [1, 0] rfl (by decide)
 refine KQ.rets Tryz.results59 (RVs.cons (RV.tm rfl) (RVs.cons (RV.tm rfl) RVs.nil)) ?_
 exact ⟨_, rfl, A4, c5, rfl, hM⟩
theorem Xbb (w : World) (kv1 : XR) (class2 tick3 : Int) (r : Xi) (hF : VC kv1 class2 tick3 = some r) :
  CallsR Tryz.prog 89 [.agg (kv1.cs).toArray, v8 class2, v64 tick3] w (fun v w' => v = .agg (r.cs).toArray ∧ Mem w [] w' []) := by
 refine XJ Tryz.func89 rfl Tryz.ntmps89 rfl ?_
 have hM := Mem.init w
 unfold VC at hF
 refine sr fun Q4 hQ4 => ?_
 refine RL.eff (E.box (vs := (kv1.cs)) hM rfl rfl) rfl fun v w6 hv => ?_
 clear hM
 obtain ⟨g5, rfl, hM, hf⟩ := hv
 refine RL.eff (E.alloc hM ze89) rfl fun v w9 hv => ?_
 clear hM
 obtain ⟨g8, rfl, hM, hf⟩ := hv
 refine nt hQ4 ?_
 refine sr fun Q11 hQ11 => ?_
 refine RL.val (O.loadN (cs := (kv1.cs)) ag77 rfl (Cs.addsN [] ((hM.bx (i := 0) rfl)) rfl)) rfl (vm rfl rfl (vm rfl rfl (vm rfl rfl (RL.val (O.bld (cs := (kv1.cs ++ [v64 0, v64 0, v64 tick3, v64 tick3, v8 0, v8 0, v8 class2])) bt89 rfl (by kernel_rfl)) rfl ?_))))
 refine RL.effs (E.stB (j := 1) (off := 0) (vs := (kv1.cs ++ [v64 0, v64 0, v64 tick3, v64 tick3, v8 0, v8 0, v8 class2])) (cs' := (kv1.cs ++ [v64 0, v64 0, v64 tick3, v64 tick3, v8 0, v8 0, v8 class2])) hM rfl sz89 rfl (XX [] rfl) rfl rfl (One.all rfl) rfl rfl) fun w12 hM1 => ?_
 clear hM
 have hM := hM1
 clear hM1
 refine nt hQ11 (KC.ret ?_)
 have hE := Option.some.inj hF
 clear hF
 subst hE
 have hb13 := hM.bx (i := 1) rfl
 replace hM := hM.pick [] rfl (by decide)
 refine KQ.rets Tryz.results89 (RVs.cons (RV.cN (cs := (kv1.cs ++ [v64 0, v64 0, v64 tick3, v64 tick3, v8 0, v8 0, v8 class2])) rfl ag89 hb13) RVs.nil) ?_
 exact ⟨_, rfl, rfl, hM⟩
theorem XaE (w : World) (g2 : Nat) (tg7 : TypeId) (cv1 : Xq) (A4 : Option Addr) (c5 : Nat) (hL10 : Lent w [.box g2 tg7 (v64 cv1.XK :: (cv1.Xu.cs ++ [.slice A4 (cv1.f_L).length c5])), .row A4 c5 89 44 (cv1.f_L).length ((cv1.f_L).flatMap Xs)]) (kv8 : XR) (class9 : Int) (r : (List Xi) × Xq) (hF : ZN cv1 kv8 class9 = some r) :
  CallsR Tryz.prog 60 [.pointer (some ⟨g2, 0, none⟩), .agg (kv8.cs).toArray, v8 class9] w (fun v w' => ∃ (A0 : Option Addr) (c0 : Nat) (A1 : Option Addr) (c1 : Nat), v = .slice A1 (r.1).length c1 ∧ Mem w [some g2, rblk A4 c5] w' [.box g2 tg7 (v64 r.2.XK :: (r.2.Xu.cs ++ [.slice A0 (r.2.f_L).length c0])), .row A0 c0 89 44 r.2.f_L.length (r.2.f_L.flatMap Xs), .row A1 c1 89 44 r.1.length (r.1.flatMap Xs)]) := by
 refine XJ Tryz.func60 rfl Tryz.ntmps60 rfl ?_
 have hM : Mem w [some g2, rblk A4 c5] w [.box g2 tg7 (v64 cv1.XK :: (cv1.Xu.cs ++ [.slice A4 (cv1.f_L).length c5])), .row A4 c5 89 44 (cv1.f_L).length ((cv1.f_L).flatMap Xs)] := Mem.lendN hL10
 unfold ZN at hF
 refine sr fun Q11 hQ11 => ?_
 refine RL.eff (E.box (vs := (kv8.cs)) hM rfl rfl) rfl fun v w13 hv => ?_
 clear hM
 obtain ⟨g12, rfl, hM, hf⟩ := hv
 refine va rfl rfl (nt hQ11 ?_)
 refine sr fun Q15 hQ15 => ?_
 refine va rfl rfl (nt hQ15 ?_)
 refine KC.cut (fun a w106 => ∃ (A98 : Option Addr) (c99 : Nat) (A103 : Option Addr) (c104 : Nat) (p91 p92 p93 p94 p95 p96 : Int) (p100 out105 : List Xi), Kn 93 [(0, .pointer (some ⟨g2, 0, none⟩)), (2, v8 class9), (4, .pointer (some ⟨g12, 0, none⟩)), (7, .slice A103 (out105).length c104)] a ∧ Mem w [some g2, rblk A4 c5] w106 [.row A98 c99 89 44 (p100).length ((p100).flatMap Xs), .box g2 tg7 [v64 p91, vI p92, v64 p93, v64 p94, v64 p95, v64 p96, .slice A98 (p100).length c99], .box g12 77 (kv8.cs), .row A103 c104 89 44 (out105).length ((out105).flatMap Xs)] ∧ Zg kv8 class9 p91 p92 p93 p94 p95 p96 p100 out105 = some r) ?_ ?_
 ·refine KC.seqH fun Q16 hQ16 => ?_
  replace hM := hM.drewN 1
  refine KC.draw [] [] [] [0, 1, 2, 4, 5, 6, 7, 8, 10] (.ofList [0, 1, 2, 3, 4, 5, 6, 7, 8, 9, 10]) moP (by kernel_rfl) ?_
  refine RD.p rfl rfl rfl rfl (fun w' => O.move rfl) ?_
  refine RD.p rfl rfl rfl rfl (fun w' => O.nilp rfl) ?_
  refine RD.p rfl rfl rfl rfl (fun w' => O.fldA fl72_2 (by decide) rfl) ?_
  refine RD.q rfl rfl rfl rfl (fun w' hf => O.load sc70 rfl (Cs.adds [6] ((hM.bx (i := 0) rfl).fut hf) rfl)) ?_
  refine RD.p rfl rfl rfl rfl (fun w' => O.len sl70 rfl) ?_
  refine RD.p rfl rfl rfl rfl (fun w' => O.move rfl) ?_
  refine RD.p rfl rfl rfl rfl (fun w' => O.nilp rfl) ?_
  refine RD.p rfl rfl rfl rfl (fun w' => O.fldA fl72_1 (by decide) rfl) ?_
  refine RD.p rfl rfl rfl rfl (fun w' => O.fldA fl34_0 (by decide) rfl) ?_
  refine RD.q rfl rfl rfl rfl (fun w' hf => O.load sc3 rfl (Cs.adds [1, 0] ((hM.bx (i := 0) rfl).fut hf) rfl)) ?_
  refine RD.p rfl rfl rfl rfl (fun w' => O.eql rfl rfl) (RD.nil (KQ.thn hQ16 ?_))
  refine KC.cond rfl (fun hc => ?_) (fun hc => ?_)
  ·rw [if_pos hc] at hF
   refine sr fun Q17 hQ17 => ?_
   refine va rfl rfl (nt hQ17 ?_)
   refine KC.seqH fun Q18 hQ18 => ?_
   refine sr fun Q19 hQ19 => ?_
   refine va rfl rfl (nt hQ19 (KC.block ?_))
   refine KC.loop (fun k60 a w58 => ∃ (best56 i57 : Int), Kn 93 [(0, .pointer (some ⟨g2, 0, none⟩)), (2, v8 class9), (4, .pointer (some ⟨g12, 0, none⟩)), (7, .slice none 0 0), (8, vI best56), (9, vI i57)] a ∧ Mem w [some g2, rblk A4 c5] w58 [.row A4 c5 89 44 (cv1.f_L).length ((cv1.f_L).flatMap Xs), .box g2 tg7 (v64 cv1.XK :: (cv1.Xu.cs ++ [.slice A4 (cv1.f_L).length c5])), .box g12 77 (kv8.cs)] ∧ Yz cv1 kv8 class9 k60 best56 i57 = some r) ?_ ?_
   ·replace hM := hM.pick [1, 0, 2] rfl (by decide)
    exact fun a ha => ⟨fuel0, 0, 1, ha.less (Xa rfl (Xa rfl (Xa rfl (Xa rfl (Xa rfl (Xa rfl Xj)))))), hM, hF⟩
   rintro k60 a w58 ⟨best56, i57, ha, hM, hF⟩
   refine KC.app ha ?_
   clear ha
   cases k60 with
   | zero => exact (Yl hF).elim
   | succ k60 =>
   have hF : Jv (Yz cv1 kv8 class9 k60) cv1 kv8 class9 best56 i57 = some r := hF
   unfold Jv at hF
   refine KC.seqH fun Q61 hQ61 => ?_
   refine sr fun Q62 hQ62 => ?_
   refine vm rfl rfl (vm rfl rfl (RL.val (O.nilp rfl) rfl (RL.val (O.fldA fl72_2 (by decide) rfl) rfl ?_)))
   refine RL.val (O.load sc70 rfl (Cs.adds [6] ((hM.bx (i := 1) rfl)) rfl)) rfl (RL.val (O.len sl70 rfl) rfl (RL.val (O.lss rfl rfl) rfl (nt hQ62 ?_)))
   refine KC.cond rfl (fun hc => ?_) (fun hc => ?_)
   ·rw [if_pos hc] at hF
    refine KC.skip (KQ.thn hQ61 ?_)
    refine KC.cut (fun a w74 => ∃ (best73 : Int), Kn 93 [(0, .pointer (some ⟨g2, 0, none⟩)), (2, v8 class9), (4, .pointer (some ⟨g12, 0, none⟩)), (7, .slice none 0 0), (8, vI best73), (9, vI i57)] a ∧ Mem w [some g2, rblk A4 c5] w74 [.row A4 c5 89 44 (cv1.f_L).length ((cv1.f_L).flatMap Xs), .box g2 tg7 (v64 cv1.XK :: (cv1.Xu.cs ++ [.slice A4 (cv1.f_L).length c5])), .box g12 77 (kv8.cs)] ∧ JA i57 (Yz cv1 kv8 class9 k60) best73 = some r) ?_ ?_
    ·refine KC.block ?_
     refine KC.seqH fun Q63 hQ63 => ?_
     replace hM := hM.drewN 1
     refine KC.draw [] [] [] [0, 1, 2, 4, 6, 8, 9, 10, 12, 14, 16] (.ofList [0, 1, 2, 3, 4, 5, 6, 7, 8, 9, 10, 11, 12, 13, 14, 15, 16]) moP (by kernel_rfl) ?_
     refine RD.p rfl rfl rfl rfl (fun w' => O.move rfl) ?_
     refine RD.p rfl rfl rfl rfl (fun w' => O.nilp rfl) ?_
     refine RD.p rfl rfl rfl rfl (fun w' => O.fldA fl72_2 (by decide) rfl) ?_
     refine RD.q rfl rfl rfl rfl (fun w' hf => O.load sc70 rfl (Cs.adds [6] ((hM.bx (i := 1) rfl).fut hf) rfl)) ?_
     refine RD.p rfl rfl rfl rfl (fun w' => O.move rfl) ?_
     refine Xx hF fun xv66 hx65 hF => ?_
     have hA64 := Rd.atN (f := Xs) (s := 44) (fun _ => rfl) (by decide) (hM.rd (i := 0) rfl) hx65
     refine RD.q rfl rfl rfl rfl (fun w' hf => O.idxA sl70 (hA64.fut hf) rfl rfl) ?_
     refine RD.p rfl rfl rfl rfl (fun w' => O.fldA fl89_4 (by decide) rfl) ?_
     refine RD.q rfl rfl rfl rfl (fun w' hf => O.load sc22 rfl (Cs.adds [40] (hA64.fut hf).cells rfl)) ?_
     refine RD.p rfl rfl rfl rfl (fun w' => O.move rfl) ?_
     refine RD.p rfl rfl rfl rfl (fun w' => O.nilp rfl) ?_
     refine RD.p rfl rfl rfl rfl (fun w' => O.fldA fl72_2 (by decide) rfl) ?_
     refine RD.q rfl rfl rfl rfl (fun w' hf => O.load sc70 rfl (Cs.adds [6] ((hM.bx (i := 1) rfl).fut hf) rfl)) ?_
     refine RD.p rfl rfl rfl rfl (fun w' => O.move rfl) ?_
     refine Xx hF fun xv69 hx68 hF => ?_
     have hA67 := Rd.atN (f := Xs) (s := 44) (fun _ => rfl) (by decide) (hM.rd (i := 0) rfl) hx68
     refine RD.q rfl rfl rfl rfl (fun w' hf => O.idxA sl70 (hA67.fut hf) rfl rfl) ?_
     refine RD.p rfl rfl rfl rfl (fun w' => O.fldA fl89_4 (by decide) rfl) ?_
     refine RD.q rfl rfl rfl rfl (fun w' hf => O.load sc22 rfl (Cs.adds [40] (hA67.fut hf).cells rfl)) ?_
     refine RD.p rfl rfl rfl rfl (fun w' => O.lss rfl rfl) (RD.nil (KQ.thn hQ63 ?_))
     refine KC.cond rfl (fun hc => ?_) (fun hc => ?_)
     ·rw [if_pos hc] at hF
      refine KC.region (vm rfl rfl (va rfl rfl (RL.nil (KQ.blk_n (KQ.Xy ?_)))))
      exact fun a ha => ⟨i57, ha.less (Xa rfl (Xa rfl (Xa rfl (Xa rfl (Xa rfl (Xa rfl Xj)))))), hM, hF⟩
     rw [if_neg (Xv hc)] at hF
     refine KC.skip (KQ.blk_n (KQ.Xy ?_))
     exact fun a ha => ⟨best56, ha.less (Xa rfl (Xa rfl (Xa rfl (Xa rfl (Xa rfl (Xa rfl Xj)))))), hM, hF⟩
    rintro a w74 ⟨best73, ha, hM, hF⟩
    refine KC.app ha ?_
    clear ha
    unfold JA at hF
    refine KC.region (vm rfl rfl (RL.val (O.add rfl rfl) rfl (va rfl rfl (RL.nil (KQ.Xy ?_)))))
    exact fun a ha => ⟨k60, Nat.lt_succ_self k60, best73, (IntKind.i64.wrap (i57 + 1)), ha.less (Xa rfl (Xa rfl (Xa rfl (Xa rfl (Xa rfl (Xa rfl Xj)))))), hM, hF⟩
   rw [if_neg (Xv hc)] at hF
   refine KC.exit (KQ.thx hQ61 (KQ.then_x (KQ.blk_x (KQ.thn hQ18 (KC.region (vm rfl rfl ?_))))))
   refine vm rfl rfl (vm rfl rfl ?_)
   refine Xx hF fun y75 hx76 hF => ?_
   refine RL.call Tryz.func62 bd62 rfl rfl (KV _ _ _ cv1 _ _ (hM.lent [1, 0] rfl (by decide)) best56 5 _ hx76) fun v w77 hv => ?_
   obtain ⟨A79, c80, rfl, hN78⟩ := hv
   replace hM := hM.callL [1, 0] [2] rfl rfl (by decide) rfl hN78
   refine RL.eff (E.bsl (enc := Xs) (xs := ([y75.1] : List Xi)) hM sl70 ze89 rfl rfl rfl (fun _ => rfl) rfl (by kernel_rfl) rfl) rfl fun v w82 hv => ?_
   clear hM
   obtain ⟨A83, rfl, hM, hf⟩ := hv
   refine XZ hF fun hq88 hF => ?_
   refine RL.eff (E.app0 (enc := Xs) (ys := ([y75.1] : List Xi)) hM sl70 ze89 rfl rfl rfl rfl rfl (hM.rd (i := 3) rfl) (fun _ => One.all rfl) (of_decide_eq_true hq88)) rfl fun v w87 hv => ?_
   clear hM
   obtain ⟨A85, c86, rfl, hM, hf⟩ := hv
   refine va rfl rfl (RL.nil (KQ.Xy ?_))
   replace hM := hM.pick [2, 1, 0, 4] rfl (by decide)
   exact fun a ha => ⟨A79, c80, A85, c86, y75.2.XK, y75.2.Xu.Xz, y75.2.Xu.XI, y75.2.Xu.XA, y75.2.Xu.Xk, y75.2.Xu.Xr, y75.2.f_L, ([y75.1] : List Xi), ha.less (Xa rfl (Xa rfl (Xa rfl (Xa rfl Xj)))), hM, hF⟩
  rw [if_neg (Xv hc)] at hF
  refine KC.skip (KQ.Xy ?_)
  replace hM := hM.nilrow 89 44
  replace hM := hM.pick [1, 0, 2, 3] rfl (by decide)
  exact fun a ha => ⟨A4, c5, none, 0, cv1.XK, cv1.Xu.Xz, cv1.Xu.XI, cv1.Xu.XA, cv1.Xu.Xk, cv1.Xu.Xr, cv1.f_L, ([]), ha.less (Xa rfl (Xa rfl (Xa rfl (Xa rfl Xj)))), hM, hF⟩
 rintro a w106 ⟨A98, c99, A103, c104, p91, p92, p93, p94, p95, p96, p100, out105, ha, hM, hF⟩
 refine KC.app ha ?_
 clear ha
 unfold Zg at hF
 refine sr fun Q107 hQ107 => ?_
 refine vm rfl rfl (RL.val (O.loadN (cs := (kv8.cs)) ag77 rfl (Cs.addsN [] ((hM.bx (i := 2) rfl)) rfl)) rfl ?_)
 refine Xx hF fun y108 hx109 hF => ?_
 refine RL.call Tryz.func59 bd59 rfl rfl (Us _ _ _ (Xq.mk p91 (Xg.mk p92 p93 p94 p95 p96) p100) _ _ (hM.lent [1, 0] rfl (by decide)) kv8 _ hx109) fun v w110 hv => ?_
 obtain ⟨A112, c113, rfl, hN111⟩ := hv
 replace hM := hM.callL [1, 0] [2, 3] rfl rfl (by decide) rfl hN111
 refine vm rfl rfl (RL.val (O.ext rfl rfl) rfl (RL.val (O.ext rfl rfl) rfl (va rfl rfl (va rfl rfl (nt hQ107 ?_)))))
 refine sr fun Q115 hQ115 => ?_
 refine va rfl rfl (nt hQ115 ?_)
 refine sr fun Q116 hQ116 => ?_
 refine vm rfl rfl (vm rfl rfl (RL.val (O.nilp rfl) rfl (RL.val (O.fldA fl72_2 (by decide) rfl) rfl ?_)))
 refine RL.val (O.load sc70 rfl (Cs.adds [6] ((hM.bx (i := 2) rfl)) rfl)) rfl (vm rfl rfl ?_)
 refine Xx hF fun cut117 hy118 hF => ?_
 refine cutNE A112 c113 (Int.toNat 0) 44 fun A119 c120 eA122 ec123 => ?_
 have hr121 := Rd.cutT (enc := Xs) (s := 44) (fun _ => rfl) (hM.rd (i := 3) rfl) hy118 (m := c113) (by have := (hM.rd (i := 3) rfl).cap; have := (gcut_some hy118).2.2.1; omega) (Nat.le_refl _)
 rw [← eA122, ← ec123] at hr121
 refine RL.val (v := .slice A119 (cut117).length c120) (by rw [eA122, ec123]; exact O.cuthT sl70 (hM.rd (i := 3) rfl) hy118 rfl rfl) rfl ?_
 refine XZ hF fun hq127 hF => ?_
 refine RL.eff (E.app0 (enc := Xs) (ys := cut117) hM sl70 ze89 rfl rfl rfl rfl rfl hr121 (fun _ => One.all rfl) (of_decide_eq_true hq127)) rfl fun v w126 hv => ?_
 clear hM
 obtain ⟨A124, c125, rfl, hM, hf⟩ := hv
 have hr121 := Rd.cutT (enc := Xs) (s := 44) (fun _ => rfl) (hM.rd (i := 3) rfl) hy118 (m := c113) (by have := (hM.rd (i := 3) rfl).cap; have := (gcut_some hy118).2.2.1; omega) (Nat.le_refl _)
 rw [← eA122, ← ec123] at hr121
 refine va rfl rfl (nt hQ116 ?_)
 refine KC.seqH fun Q129 hQ129 => ?_
 replace hM := hM.drewN 1
 refine KC.draw [] [9] [7, 8, 9] [0, 2, 3, 4, 5, 10] (.ofList [0, 1, 2, 3, 4, 5, 6, 7, 8, 9, 10]) moP (by kernel_rfl) ?_
 refine RD.p rfl rfl rfl rfl (fun w' => O.move rfl) ?_
 refine RD.q rfl rfl rfl rfl (fun w' hf => O.loadN (cs := (kv8.cs)) ag77 rfl (Cs.addsN [] ((hM.bx (i := 0) rfl).fut hf) rfl)) ?_
 refine RD.p rfl rfl rfl rfl (fun w' => O.move rfl) ?_
 refine RD.p rfl rfl rfl rfl (fun w' => O.move rfl) ?_
 refine RD.p rfl rfl rfl rfl (fun w' => O.nilp rfl) ?_
 refine RD.p rfl rfl rfl rfl (fun w' => O.fldA fl72_0 (by decide) rfl) ?_
 refine RD.q rfl rfl rfl rfl (fun w' hf => O.load sc22 rfl (Cs.adds [0] ((hM.bx (i := 2) rfl).fut hf) rfl)) ?_
 refine Xx hF fun y130 hx131 hF => ?_
 refine RD.mcall rfl rfl trivial Tryz.func89 bd89 rfl rfl (Xbb _ kv8 class9 y108.2.2.XK _ hx131) fun v w132 hv => ?_
 obtain ⟨rfl, hN133⟩ := hv
 refine ⟨fun _ => hN133.fut, ?_⟩
 replace hM := hM.call0 hN133
 refine RD.meff rfl rfl (E.bsl (enc := Xs) (xs := ([y130] : List Xi)) hM sl70 ze89 rfl rfl rfl (fun _ => rfl) rfl (by kernel_rfl) rfl) rfl fun v w134 hv => ?_
 clear hM
 obtain ⟨A135, rfl, hM, hf⟩ := hv
 refine ⟨fun _ => hf, ?_⟩
 refine XZ hF fun hq140 hF => ?_
 refine RD.meff rfl rfl (E.app (enc := Xs) (xs := cut117) (ys := ([y130] : List Xi)) (j := 4) hM rfl sl70 ze89 rfl rfl rfl rfl rfl (hM.rd (i := 5) rfl) (fun _ => One.all rfl) (of_decide_eq_true hq140)) rfl fun v w139 hv => ?_
 clear hM
 obtain ⟨A137, c138, rfl, hM, hf⟩ := hv
 refine ⟨fun h => (by cases h), ?_⟩
 refine RD.p rfl rfl rfl rfl (fun w' => O.assign rfl) (RD.nil (KQ.thn hQ129 ?_))
 replace hM := hM.pick [1, 2, 3, 4] rfl (by decide)
 refine sr fun Q142 hQ142 => ?_
 refine vm rfl rfl (vm rfl rfl (vm rfl rfl (RL.val (O.nilp rfl) rfl (RL.val (O.fldA fl72_2 (by decide) rfl) rfl ?_))))
 refine RL.val (O.load sc70 rfl (Cs.adds [6] ((hM.bx (i := 1) rfl)) rfl)) rfl (vm rfl rfl ?_)
 refine Xx hF fun cut143 hy144 hF => ?_
 refine cutNE A112 c113 (Int.toNat y108.1) 44 fun A145 c146 eA148 ec149 => ?_
 have hr147 := Rd.cutT (enc := Xs) (s := 44) (fun _ => rfl) (hM.rd (i := 2) rfl) hy144 (m := c113) (by have := (hM.rd (i := 2) rfl).cap; have := (gcut_some hy144).2.2.1; omega) (Nat.le_refl _)
 rw [← eA148, ← ec149] at hr147
 refine RL.val (v := .slice A145 (cut143).length c146) (by rw [eA148, ec149]; exact O.cutlT sl70 (hM.rd (i := 2) rfl) hy144 rfl rfl) rfl ?_
 refine XZ hF fun hq153 hF => ?_
 refine RL.eff (E.app (enc := Xs) (xs := (cut117 ++ ([y130] : List Xi))) (ys := cut143) (j := 3) hM rfl sl70 ze89 rfl rfl rfl rfl rfl hr147 (fun _ => One.all rfl) (of_decide_eq_true hq153)) rfl fun v w152 hv => ?_
 clear hM
 obtain ⟨A150, c151, rfl, hM, hf⟩ := hv
 have hr147 := Rd.cutT (enc := Xs) (s := 44) (fun _ => rfl) (hM.rd (i := 2) rfl) hy144 (m := c113) (by have := (hM.rd (i := 2) rfl).cap; have := (gcut_some hy144).2.2.1; omega) (Nat.le_refl _)
 rw [← eA148, ← ec149] at hr147
 refine RL.val (O.nilp rfl) rfl (RL.val (O.fldA fl72_2 (by decide) rfl) rfl ?_)
 refine RL.effs (E.stB (j := 1) (off := 6) (vs := [.slice A150 (((cut117 ++ ([y130] : List Xi)) ++ cut143)).length c151]) (cs' := (v64 y108.2.2.XK :: (y108.2.2.Xu.cs ++ [.slice A150 (((cut117 ++ ([y130] : List Xi)) ++ cut143)).length c151]))) hM rfl sz70 rfl (XX [6] rfl) rfl rfl (One.all rfl) rfl rfl) fun w155 hM1 => ?_
 clear hM
 have hM := hM1
 clear hM1
 have hr147 := Rd.cutT (enc := Xs) (s := 44) (fun _ => rfl) (hM.rd (i := 2) rfl) hy144 (m := c113) (by have := (hM.rd (i := 2) rfl).cap; have := (gcut_some hy144).2.2.1; omega) (Nat.le_refl _)
 rw [← eA148, ← ec149] at hr147
 refine nt hQ142 ?_
 replace hM := hM.pick [0, 1, 3] rfl (by decide)
 refine sr fun Q156 hQ156 => ?_
 refine vm rfl rfl (va rfl rfl (nt hQ156 (KC.ret ?_)))
 have hE := Option.some.inj hF
 clear hF
 subst hE
 replace hM := hM.pick [1, 2, 0] rfl (by decide)
 refine KQ.rets Tryz.results60 (RVs.cons (RV.tm rfl) RVs.nil) ?_
 exact ⟨_, rfl, A150, c151, A103, c104, rfl, hM⟩
theorem XaU (w : World) (rv1 : Xi) (p2 : Zd) (tick3 : Int) (r : Xi) (hF : U5 rv1 p2 tick3 = some r) :
  CallsR Tryz.prog 61 [.agg (rv1.cs).toArray, .agg (p2.cs).toArray, v64 tick3] w (fun v w' => v = .agg (r.cs).toArray ∧ Mem w [] w' []) := by
 refine XJ Tryz.func61 rfl Tryz.ntmps61 rfl ?_
 have hM := Mem.init w
 unfold U5 at hF
 refine sr fun Q4 hQ4 => ?_
 refine RL.eff (E.box (vs := (rv1.cs)) hM rfl rfl) rfl fun v w6 hv => ?_
 clear hM
 obtain ⟨g5, rfl, hM, hf⟩ := hv
 refine RL.eff (E.box (vs := (p2.cs)) hM rfl rfl) rfl fun v w9 hv => ?_
 clear hM
 obtain ⟨g8, rfl, hM, hf⟩ := hv
 refine RL.eff (E.alloc hM ze89) rfl fun v w12 hv => ?_
 clear hM
 obtain ⟨g11, rfl, hM, hf⟩ := hv
 refine nt hQ4 ?_
 refine sr fun Q14 hQ14 => ?_
 refine RL.val (O.fldA fl89_1 (by decide) rfl) rfl ?_
 refine RL.val (O.load sc22 rfl (Cs.adds [37] ((hM.bx (i := 0) rfl)) rfl)) rfl ?_
 refine Xx hF fun y15 hx16 hF => ?_
 refine RL.call Tryz.func90 bd90 rfl rfl (VO _ rv1.Xk 1 _ hx16) fun v w17 hv => ?_
 obtain ⟨rfl, hN18⟩ := hv
 replace hM := hM.call0 hN18
 refine RL.val (O.fldA fl89_1 (by decide) rfl) rfl ?_
 refine RL.effs (E.stB (j := 0) (off := 37) (vs := [v64 y15]) (cs' := (rv1.Xo.cs ++ [v64 y15, v64 rv1.Xr, v64 rv1.X4, v64 rv1.Ya, v8 rv1.XO, v8 rv1.X9, v8 rv1.XU])) hM rfl sz22 rfl (XX [37] rfl) rfl rfl (One.all rfl) rfl rfl) fun w19 hM1 => ?_
 clear hM
 have hM := hM1
 clear hM1
 refine nt hQ14 ?_
 refine sr fun Q20 hQ20 => ?_
 refine RL.val (O.fldA fl89_2 (by decide) rfl) rfl ?_
 refine RL.val (O.load sc22 rfl (Cs.adds [38] ((hM.bx (i := 0) rfl)) rfl)) rfl (RL.val (O.fldA fl79_1 (by decide) rfl) rfl ?_)
 refine RL.val (O.load sc3 rfl (Cs.adds [37] ((hM.bx (i := 1) rfl)) rfl)) rfl (RL.val (O.max2 rfl rfl) rfl (RL.val (O.conv un3 Tryz.underlying22 rfl) rfl ?_))
 refine Xx hF fun y21 hx22 hF => ?_
 refine RL.call Tryz.func90 bd90 rfl rfl (VO _ rv1.Xr (IntKind.u64.wrap (gmax 0 p2.Yk)) _ hx22) fun v w23 hv => ?_
 obtain ⟨rfl, hN24⟩ := hv
 replace hM := hM.call0 hN24
 refine RL.val (O.fldA fl89_2 (by decide) rfl) rfl ?_
 refine RL.effs (E.stB (j := 0) (off := 38) (vs := [v64 y21]) (cs' := (rv1.Xo.cs ++ [v64 y15, v64 y21, v64 rv1.X4, v64 rv1.Ya, v8 rv1.XO, v8 rv1.X9, v8 rv1.XU])) hM rfl sz22 rfl (XX [38] rfl) rfl rfl (One.all rfl) rfl rfl) fun w25 hM1 => ?_
 clear hM
 have hM := hM1
 clear hM1
 refine nt hQ20 ?_
 refine sr fun Q26 hQ26 => ?_
 refine RL.val (O.fldA fl89_4 (by decide) rfl) rfl ?_
 refine RL.val (O.load sc22 rfl (Cs.adds [40] ((hM.bx (i := 0) rfl)) rfl)) rfl (vm rfl rfl (RL.val (O.max2 rfl rfl) rfl (RL.val (O.fldA fl89_4 (by decide) rfl) rfl ?_)))
 refine RL.effs (E.stB (j := 0) (off := 40) (vs := [v64 (gmax rv1.Ya tick3)]) (cs' := (rv1.Xo.cs ++ [v64 y15, v64 y21, v64 rv1.X4, v64 (gmax rv1.Ya tick3), v8 rv1.XO, v8 rv1.X9, v8 rv1.XU])) hM rfl sz22 rfl (XX [40] rfl) rfl rfl (One.all rfl) rfl rfl) fun w27 hM1 => ?_
 clear hM
 have hM := hM1
 clear hM1
 refine nt hQ26 ?_
 refine sr fun Q28 hQ28 => ?_
 refine RL.val (O.fldA fl89_5 (by decide) rfl) rfl ?_
 refine RL.val (O.load sc5 rfl (Cs.adds [41] ((hM.bx (i := 0) rfl)) rfl)) rfl (RL.val (O.fldA fl79_2 (by decide) rfl) rfl ?_)
 refine RL.val (O.load sc5 rfl (Cs.adds [38] ((hM.bx (i := 1) rfl)) rfl)) rfl (RL.val (O.or rfl rfl) rfl (RL.val (O.fldA fl89_5 (by decide) rfl) rfl ?_))
 refine RL.effs (E.stB (j := 0) (off := 41) (vs := [v8 (bits .or .u8 rv1.XO p2.XO)]) (cs' := (rv1.Xo.cs ++ [v64 y15, v64 y21, v64 rv1.X4, v64 (gmax rv1.Ya tick3), v8 (bits .or .u8 rv1.XO p2.XO), v8 rv1.X9, v8 rv1.XU])) hM rfl sz5 rfl (XX [41] rfl) rfl rfl (One.all rfl) rfl rfl) fun w29 hM1 => ?_
 clear hM
 have hM := hM1
 clear hM1
 refine nt hQ28 ?_
 refine sr fun Q30 hQ30 => ?_
 refine RL.val (O.loadN (cs := (rv1.Xo.cs ++ [v64 y15, v64 y21, v64 rv1.X4, v64 (gmax rv1.Ya tick3), v8 (bits .or .u8 rv1.XO p2.XO), v8 rv1.X9, v8 rv1.XU])) ag89 rfl (Cs.addsN [] ((hM.bx (i := 0) rfl)) rfl)) rfl ?_
 refine RL.effs (E.stB (j := 2) (off := 0) (vs := (rv1.Xo.cs ++ [v64 y15, v64 y21, v64 rv1.X4, v64 (gmax rv1.Ya tick3), v8 (bits .or .u8 rv1.XO p2.XO), v8 rv1.X9, v8 rv1.XU])) (cs' := (rv1.Xo.cs ++ [v64 y15, v64 y21, v64 rv1.X4, v64 (gmax rv1.Ya tick3), v8 (bits .or .u8 rv1.XO p2.XO), v8 rv1.X9, v8 rv1.XU])) hM rfl sz89 rfl (XX [] rfl) rfl rfl (One.all rfl) rfl rfl) fun w31 hM1 => ?_
 clear hM
 have hM := hM1
 clear hM1
 refine nt hQ30 (KC.ret ?_)
 have hE := Option.some.inj hF
 clear hF
 subst hE
 have hb32 := hM.bx (i := 2) rfl
 replace hM := hM.pick [] rfl (by decide)
 refine KQ.rets Tryz.results61 (RVs.cons (RV.cN (cs := (rv1.Xo.cs ++ [v64 y15, v64 y21, v64 rv1.X4, v64 (gmax rv1.Ya tick3), v8 (bits .or .u8 rv1.XO p2.XO), v8 rv1.X9, v8 rv1.XU])) rfl ag89 hb32) RVs.nil) ?_
 exact ⟨_, rfl, rfl, hM⟩
end Go.Proofs.YtkpnocgfhipidaaGreat
